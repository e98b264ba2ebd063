import PyProof.Rows.All
import Wide.All
import OpenK.AllK
import Wide.FinOn
import HandS.ForMost
import HandS.Exc
import HandS.WordsExc
import HandS.TupAny
import HandS.Style
import PyProof.ReprRoads
import HandS.Flow
import HandS.Deep
import HandS.TryOnly
import HandS.Wide
import HandS.TupMul
import PyProof.Rows.RuleB_bool
import HandS.IsInst
import PyProof.MinMaxWalk
import HandS.Conv
import HandS.Small
import HandS.Dict
import PyProof.ReprLen
import PyProof.P3Eq
import PyProof.EnumMake
import KE.GoesMore
import HandS.Iter
import HandS.SortInts
import HandS.Strs
import PyProof.DictUpdate
import HandS.SortOrd
import HandS.SortRule
import HandS.TupSets
import HandS.DictComp
import PyProof.P3In
import HandS.Zip
import PySem.Challenge.RW_loopsonplates_k13_rays_numbers_by_long_s
set_option Elab.async false
set_option linter.all false
set_option maxRecDepth 100000
/-! DL0: new tuples, tracked with their object (so that it is known to have no dict). -/
namespace DL
open PySem PySem.Spec PyProof.Rows L2
/-- a tracked tuple whose object has no dict -/
def RdT (H : Hp) (a : Addr) (xs : List V) : Prop := ∃ o : Obj, H a = some (.frz o (.tup xs)) ∧ o.dict = none
theorem RdT.rd {H : Hp} {a : Addr} {xs : List V} : RdT H a xs → Rd H a (.tup xs) := fun ⟨o, e, _⟩ => .inr ⟨o, e⟩
/-- .. is new at p -/
def NewT (H : Hp) (xs : List V) (Q : V → Hp → Prop) : Prop := ∀ (p : Addr) (o : Obj), H p = none → o.dict = none → Q (.ref p) (upd H p (.frz o (.tup xs)))
theorem NewT.at {H : Hp} {xs : List V} {p : Addr} {o : Obj} (h : o.dict = none) : RdT (upd H p (.frz o (.tup xs))) p xs := ⟨o, upd_same, h⟩
section
variable {X : Cx}
/-- a tuple is pushed -/
theorem new_tup {pins : List (Addr × Obj)} {σ : L2.St} {H : Hp} {s : Shared} {Q : VK} {xs : List V} {its : List Value} {h' : Heap} {tk : Nat} (I : Inv X pins σ H { s with heap := h', toks := tk }) (r : Vals xs its) (hz : xs.length ≤ sizeLine)
    (q : NewT H xs Q) : EP X pins σ Q (.ref h'.objs.size) { s with heap := h'.push { cls := .type "tuple", data := .seq its.toArray }, toks := tk } :=
  ⟨.ref h'.objs.size, _, I.laid (t' := tk) (o := .frz { cls := .type "tuple", data := .seq its.toArray } (.tup xs)) (fun b ob e => Heap.get?_push_of_some _ e) (Nat.le_refl _)
    ⟨Heap.get?_push_size _ rfl, hz, its, r, IsTup.new _ _⟩, rfl, q _ _ (I.hok.fresh (Nat.le_refl _)) rfl⟩
def tTupF (t : TA) : TE := fun σ H Q => t σ H fun xs H1 => xs.length ≤ sizeLine ∧ NewT H1 xs Q
theorem pe_tupF {es : List Expr} {t : TA} {k : Nat} {pos : Pos} (h : PA X es t) : PE X (.Tuple es k pos) (tTupF t) :=
  ⟨fun pins s σ H Q I hq => wpAny_Tuple_spliced (thn (h.run pos pins s σ H _ I hq) fun us s1 ⟨xs, H1, I1, r, z, q⟩ => ⟨by rw [← r.length]; exact z, new_tup (s := s1) (h' := s1.heap) (tk := s1.toks) I1 r z q⟩)⟩
def rTupOfF (K : PySem.W.Frag) : List V → Hp → VK → Prop := fun xs H Q => ∃ p ys, xs = [.ref p] ∧ ((SqL K H p ys ∧ NewT H ys Q) ∨ (SqT K H p ys ∧ Q (.ref p) H))
theorem call_tupF : CallR X (.type "tuple") (rTupOfF X.K) := by
  intro pins s σ H xs us Q I r h
  obtain ⟨p, ys, rfl, h⟩ := h
  obtain ⟨u, rfl, rx⟩ := vals1 r
  cases rx
  rcases h with ⟨hq, q⟩ | ⟨hq, q⟩
  · obtain ⟨its, r', pl, hz⟩ := I.list hq
    have hlen := r'.length
    refine call_tuple_list pl.isList (fun h' kp => ?_) (by simp only [List.size_toArray] <;> omega)
    exact new_tup (s := s) (tk := s.toks) (I.kept (t' := s.toks) kp) r' hz q
  · obtain ⟨its, r', pl, hz⟩ := I.tuple hq
    exact call_tuple_same pl ⟨.ref p, H, I, rfl, q⟩
def rCatF (K : PySem.W.Frag) : R2 := fun x y H Q => ∃ a b xs ys, x = .ref a ∧ y = .ref b ∧ SqT K H a xs ∧ SqT K H b ys ∧ xs.length + ys.length ≤ sizeLine ∧
  (xs = [] → Q (.ref b) H) ∧ (xs ≠ [] → ys = [] → Q (.ref a) H) ∧ (xs ≠ [] → ys ≠ [] → NewT H (xs ++ ys) Q)
theorem op_catF : OpR X (binaryOp .Add) (rCatF X.K) := by
  intro pins s σ H x y v u Q I rx ry h
  obtain ⟨a, b, xs, ys, rfl, rfl, ha, hb, hz, q0, q1, q2⟩ := h
  by_cases hx : xs = []
  · exact op_catA pins s σ H _ _ v u Q I rx ry ⟨a, b, xs, ys, rfl, rfl, ha, hb, hz, q0, q1, fun n => absurd hx n⟩
  · cases rx
    cases ry
    obtain ⟨its, r1, p1, _⟩ := I.tuple ha
    obtain ⟨its2, r2, p2, _⟩ := I.tuple hb
    refine HT.cat_tup p1 p2 (fun z => hx (r1.nil_iff.mp z)) (fun z => ⟨.ref a, H, I, rfl, q1 hx (r2.nil_iff.mp z)⟩) (fun z => ?_) (by rw [← r1.length, ← r2.length]; exact hz)
    exact new_tup (s := s) (h' := s.heap) (tk := s.toks) I (r1.append r2) (by rw [List.length_append]; exact hz) (q2 hx fun w => z (r2.nil_iff.mpr w))
def rSlF (K : PySem.W.Frag) : V → Option Int → Option Int → Hp → VK → Prop := fun x lo hi H Q => ∃ a xs, x = .ref a ∧ SqT K H a xs ∧
  (HT.sIx xs.length 0 lo = 0 ∧ HT.sIx xs.length xs.length hi = xs.length → Q (.ref a) H) ∧ (¬ (HT.sIx xs.length 0 lo = 0 ∧ HT.sIx xs.length xs.length hi = xs.length) → NewT H (cutV xs lo hi) Q)
theorem sl_tupF : SlR X (rSlF X.K) := by
  intro pins s σ H x v vl vu lo hi sl Q I rx hs pl pu h
  obtain ⟨a, xs, rfl, hx, q1, q2⟩ := h
  by_cases hw : HT.sIx xs.length 0 lo = 0 ∧ HT.sIx xs.length xs.length hi = xs.length
  · exact sl_tupA pins s σ H _ v vl vu lo hi sl Q I rx hs pl pu ⟨a, xs, rfl, hx, q1, fun n => absurd hw n⟩
  · cases rx
    obtain ⟨its, r, ht, hz⟩ := I.tuple hx
    have hlen : its.toArray.size = xs.length := by rw [List.size_toArray]; exact r.length.symm
    refine ⟨"tuple", _, PyProof.Rows.slot_tuple_getitem.lookup, ht.typeIs, ?_⟩
    refine HT.getItem_tuple_cut ht hs pl pu (by rw [hlen]; exact hw) ?_ (by rw [hlen]; exact hz)
    rw [hlen]
    exact new_tup (s := s) (h' := s.heap) (tk := s.toks) I ((r.drop (HT.sIx xs.length 0 lo)).take (HT.sIx xs.length xs.length hi - HT.sIx xs.length 0 lo)) (Nat.le_trans (cutV_length xs lo hi) hz) (q2 hw)
end
end DL

/-! DL1: data over the heap: representation, environments, frames. -/
namespace DL
open PySem PySem.Spec PyProof.Rows L2
abbrev D := PyData
def kD : Key → D
  | .inl i => .int i
  | .inr x => .str x
theorem kD_inj {a b : Key} (e : kD a = kD b) : a = b := by
  cases a <;> cases b <;> simp_all [kD]

abbrev KL (K : PySem.W.Frag) (a : Addr) (xs : List V) : Prop :=
  ∃ (its : Array Value) (n : Nat), K.lookup a = some { cls := .type "list", data := .seq its n } ∧ its.size ≤ sizeLine ∧ Vals xs its.toList
/-- a list that is read -/
def LX (K : PySem.W.Frag) (H : Hp) (a : Addr) (xs : List V) : Prop := Rd H a (.lst xs) ∨ KL K a xs
theorem LX.sq {K : PySem.W.Frag} {H : Hp} {a : Addr} {xs : List V} (h : LX K H a xs) : SqL K H a xs :=
  h.imp id fun ⟨its, n, q1, q2, q3⟩ => ⟨_, its, n, q1, rfl, rfl, rfl, q2, q3⟩
theorem lx_inv {X : Cx} {pins : List (Addr × Obj)} {σ : L2.St} {H : Hp} {s : Shared} {a : Addr} {xs : List V} (I : Inv X pins σ H s) (h : LX X.K H a xs) :
    xs.length ≤ sizeLine ∧ ∃ (its : List Value) (n : Nat), Vals xs its ∧ s.heap.get? a = some { cls := .type "list", data := .seq its.toArray n } := by
  rcases h with h | ⟨its, n, hk, hz, r⟩
  · obtain ⟨z, its, n, r, e⟩ := h.ok I.hok
    exact ⟨z, its, n, r, e⟩
  · have e : xs.length = its.size := r.length.trans Array.length_toList
    exact ⟨by rw [e]; exact hz, its.toList, n, r, by rw [Array.toArray_toList]; exact I.kIn a _ hk⟩
abbrev KT' (K : PySem.W.Frag) (a : Addr) (xs : List V) : Prop :=
  ∃ (o : Obj) (its : Array Value) (n : Nat), K.lookup a = some o ∧ o.cls = .type "tuple" ∧ o.data = .seq its n ∧ its.size ≤ sizeLine ∧ Vals xs its.toList ∧ o.dict = none

/- v stands for d in H; no object on the way lies in S (the objects that may still be changed) -/
mutual
inductive R (K : PySem.W.Frag) (S : List Addr) (H : Hp) : V → D → Prop
  | non : R K S H .non .none
  | bl (b : Bool) : R K S H (.bl b) (.bool b)
  | int (i : Int) : R K S H (.int i) (.int i)
  | str (x : Str) : R K S H (.str x) (.str x)
  | lst {a : Addr} {xs : List V} {ds : List D} : (a ∉ S ∧ Rd H a (.lst xs)) ∨ KL K a xs → RA K S H xs ds → ds.length ≤ sizeLine → R K S H (.ref a) (.list ds)
  | tup {a : Addr} {xs : List V} {ds : List D} : (a ∉ S ∧ RdT H a xs) ∨ KT' K a xs → RA K S H xs ds → ds.length ≤ sizeLine → R K S H (.ref a) (.tuple ds)
  | dik {a : Addr} {kvs : List (Key × V)} {ds : List (D × D)} : a ∉ S → Rd H a (.dK kvs) → RK K S H kvs ds → R K S H (.ref a) (.dict ds)
  | dit {a : Addr} {kvs : List (List Key × V)} {ds : List (D × D)} : a ∉ S → Rd H a (.dT kvs) → RT K S H kvs ds → R K S H (.ref a) (.dict ds)
inductive RA (K : PySem.W.Frag) (S : List Addr) (H : Hp) : List V → List D → Prop
  | nil : RA K S H [] []
  | cons {v : V} {vs : List V} {d : D} {ds : List D} : R K S H v d → RA K S H vs ds → RA K S H (v :: vs) (d :: ds)
inductive RK (K : PySem.W.Frag) (S : List Addr) (H : Hp) : List (Key × V) → List (D × D) → Prop
  | nil : RK K S H [] []
  | cons {k : Key} {v : V} {vs : List (Key × V)} {d : D} {ds : List (D × D)} : R K S H v d → RK K S H vs ds → RK K S H ((k, v) :: vs) ((kD k, d) :: ds)
inductive RT (K : PySem.W.Frag) (S : List Addr) (H : Hp) : List (List Key × V) → List (D × D) → Prop
  | nil : RT K S H [] []
  | cons {k : List Key} {v : V} {vs : List (List Key × V)} {d : D} {ds : List (D × D)} : R K S H v d → RT K S H vs ds → RT K S H ((k, v) :: vs) ((.tuple (k.map kD), d) :: ds)
end

/-- from (S, H) to (S', H') all that stood outside S stands, outside S' -/
def Kp (S : List Addr) (H : Hp) (S' : List Addr) (H' : Hp) : Prop := ∀ a o, a ∉ S → H a = some o → a ∉ S' ∧ H' a = some o
theorem Kp.refl (S : List Addr) (H : Hp) : Kp S H S H := fun _ _ h e => ⟨h, e⟩
theorem Kp.trans {S S1 S2 : List Addr} {H H1 H2 : Hp} (a : Kp S H S1 H1) (b : Kp S1 H1 S2 H2) : Kp S H S2 H2 := fun x o h e => by
  obtain ⟨h1, e1⟩ := a x o h e
  exact b x o h1 e1
theorem Kp.rd {S S' : List Addr} {H H' : Hp} (k : Kp S H S' H') {a : Addr} {u : HO} (h : a ∉ S) (r : Rd H a u) : a ∉ S' ∧ Rd H' a u := by
  rcases r with r | ⟨o, r⟩
  · obtain ⟨h1, e1⟩ := k _ _ h r; exact ⟨h1, .inl e1⟩
  · obtain ⟨h1, e1⟩ := k _ _ h r; exact ⟨h1, .inr ⟨o, e1⟩⟩
theorem Kp.rdT {S S' : List Addr} {H H' : Hp} (k : Kp S H S' H') {a : Addr} {xs : List V} (h : a ∉ S) (r : RdT H a xs) : a ∉ S' ∧ RdT H' a xs := by
  obtain ⟨o, r, d⟩ := r
  obtain ⟨h1, e1⟩ := k _ _ h r
  exact ⟨h1, o, e1, d⟩
theorem KT'.t {K : PySem.W.Frag} {a : Addr} {xs : List V} : KT' K a xs → ∃ (o : Obj) (its : Array Value) (n : Nat), K.lookup a = some o ∧ o.cls = .type "tuple" ∧ o.data = .seq its n ∧ its.size ≤ sizeLine ∧ Vals xs its.toList :=
  fun ⟨o, its, n, h1, h2, h3, h4, h5, _⟩ => ⟨o, its, n, h1, h2, h3, h4, h5⟩
theorem tq {K : PySem.W.Frag} {S : List Addr} {H : Hp} {a : Addr} {xs : List V} (h : (a ∉ S ∧ RdT H a xs) ∨ KT' K a xs) : SqT K H a xs := h.imp (fun h => h.2.rd) KT'.t
theorem Kp.same {S : List Addr} {H H' : Hp} (s : Same H H') : Kp S H S H' := fun a o h e => ⟨h, s a o e⟩

section
variable {K : PySem.W.Frag} {S S' : List Addr} {H H' : Hp}
mutual
theorem R.kp (k : Kp S H S' H') : ∀ {v : V} {d : D}, R K S H v d → R K S' H' v d
  | _, _, .non => .non
  | _, _, .bl b => .bl b
  | _, _, .int i => .int i
  | _, _, .str x => .str x
  | _, _, .lst h r l => .lst (h.imp (fun h => k.rd h.1 h.2) id) (RA.kp k r) l
  | _, _, .tup h r l => .tup (h.imp (fun h => k.rdT h.1 h.2) id) (RA.kp k r) l
  | _, _, .dik h e r => .dik (k.rd h e).1 (k.rd h e).2 (RK.kp k r)
  | _, _, .dit h e r => .dit (k.rd h e).1 (k.rd h e).2 (RT.kp k r)
theorem RA.kp (k : Kp S H S' H') : ∀ {v : List V} {d : List D}, RA K S H v d → RA K S' H' v d
  | _, _, .nil => .nil
  | _, _, .cons h r => .cons (R.kp k h) (RA.kp k r)
theorem RK.kp (k : Kp S H S' H') : ∀ {v : List (Key × V)} {d : List (D × D)}, RK K S H v d → RK K S' H' v d
  | _, _, .nil => .nil
  | _, _, .cons h r => .cons (R.kp k h) (RK.kp k r)
theorem RT.kp (k : Kp S H S' H') : ∀ {v : List (List Key × V)} {d : List (D × D)}, RT K S H v d → RT K S' H' v d
  | _, _, .nil => .nil
  | _, _, .cons h r => .cons (R.kp k h) (RT.kp k r)
end
/-- weaker: fewer objects are to be avoided -/
theorem Kp.sub (h : ∀ a ∈ S', a ∈ S) : Kp S H S' H := fun _ _ n e => ⟨fun m => n (h _ m), e⟩
theorem R.sub {v : V} {d : D} (r : R K S H v d) (h : ∀ a ∈ S', a ∈ S) : R K S' H v d := r.kp (Kp.sub h)
theorem RA.sub {v : List V} {d : List D} (r : RA K S H v d) (h : ∀ a ∈ S', a ∈ S) : RA K S' H v d := r.kp (Kp.sub h)

theorem RA.length : ∀ {vs : List V} {ds : List D}, RA K S H vs ds → vs.length = ds.length
  | _, _, .nil => rfl
  | _, _, .cons _ t => congrArg (· + 1) (RA.length t)
theorem RA.get : ∀ {vs : List V} {ds : List D} {i : Nat} {d : D}, RA K S H vs ds → ds[i]? = some d → ∃ v, vs[i]? = some v ∧ R K S H v d
  | _, _, _, _, .nil, e => by simp at e
  | _, _, 0, _, .cons r _, e => by simp at e; subst e; exact ⟨_, rfl, r⟩
  | _, _, i + 1, _, .cons _ t, e => by
    obtain ⟨v, h1, h2⟩ := RA.get (i := i) t (by simpa using e)
    exact ⟨v, by simpa using h1, h2⟩
theorem RA.getV : ∀ {vs : List V} {ds : List D} {i : Nat} {v : V}, RA K S H vs ds → vs[i]? = some v → ∃ d, ds[i]? = some d ∧ R K S H v d
  | _, _, _, _, .nil, e => by simp at e
  | _, _, 0, _, .cons r _, e => by simp at e; subst e; exact ⟨_, rfl, r⟩
  | _, _, i + 1, _, .cons _ t, e => by
    obtain ⟨v, h1, h2⟩ := RA.getV (i := i) t (by simpa using e)
    exact ⟨v, by simpa using h1, h2⟩
theorem RA.append : ∀ {vs ws : List V} {ds es : List D}, RA K S H vs ds → RA K S H ws es → RA K S H (vs ++ ws) (ds ++ es)
  | _, _, _, _, .nil, s => s
  | _, _, _, _, .cons r t, s => .cons r (RA.append t s)
theorem RA.drop : ∀ {vs : List V} {ds : List D} (n : Nat), RA K S H vs ds → RA K S H (vs.drop n) (ds.drop n)
  | _, _, 0, r => r
  | _, _, _ + 1, .nil => .nil
  | _, _, n + 1, .cons _ t => RA.drop n t
theorem RA.take : ∀ {vs : List V} {ds : List D} (n : Nat), RA K S H vs ds → RA K S H (vs.take n) (ds.take n)
  | _, _, 0, _ => .nil
  | _, _, _ + 1, .nil => .nil
  | _, _, n + 1, .cons r t => .cons r (RA.take n t)
theorem RA.set {v : V} {d : D} (r : R K S H v d) : ∀ {vs : List V} {ds : List D} (i : Nat), RA K S H vs ds → RA K S H (vs.set i v) (ds.set i d)
  | _, _, _, .nil => .nil
  | _, _, 0, .cons _ t => .cons r t
  | _, _, i + 1, .cons q t => .cons q (RA.set r i t)
theorem RA.one {v : V} {d : D} (r : R K S H v d) : RA K S H [v] [d] := .cons r .nil
theorem RA.reverse : ∀ {vs : List V} {ds : List D}, RA K S H vs ds → RA K S H vs.reverse ds.reverse
  | _, _, .nil => .nil
  | _, _, .cons r t => by
    rw [List.reverse_cons, List.reverse_cons]
    exact (RA.reverse t).append (.one r)
theorem RA.dropLast {vs : List V} {ds : List D} (r : RA K S H vs ds) : RA K S H vs.dropLast ds.dropLast := by
  rw [List.dropLast_eq_take, List.dropLast_eq_take, r.length]
  exact r.take _
theorem RA.eraseIdx {vs : List V} {ds : List D} (i : Nat) (r : RA K S H vs ds) : RA K S H (vs.eraseIdx i) (ds.eraseIdx i) := by
  rw [List.eraseIdx_eq_take_drop_succ, List.eraseIdx_eq_take_drop_succ]
  exact (r.take i).append (r.drop (i + 1))
theorem RA.rep {vs : List V} {ds : List D} (r : RA K S H vs ds) : ∀ k : Nat, RA K S H (List.replicate k vs).flatten (List.replicate k ds).flatten
  | 0 => .nil
  | k + 1 => by
    rw [List.replicate_succ, List.replicate_succ, List.flatten_cons, List.flatten_cons]
    exact r.append (RA.rep r k)
theorem RA.ints : ∀ (ns : List Int), RA K S H (ns.map V.int) (ns.map PyData.int)
  | [] => .nil
  | n :: r => .cons (.int n) (RA.ints r)
theorem RA.ints_inv : ∀ {ns : List Int} {vs : List V}, RA K S H vs (ns.map PyData.int) → vs = ns.map V.int
  | [], _, .nil => rfl
  | n :: r, _, .cons h t => by
    cases h
    rw [RA.ints_inv t]
    rfl
/- to what data is compared, shown: the library's own reading -/
mutual
def noDict : D → Bool
  | .dict _ => false
  | .list xs => noDictAll xs
  | .tuple xs => noDictAll xs
  | _ => true
def noDictAll : List D → Bool
  | [] => true
  | x :: r => noDict x && noDictAll r
end
mutual
theorem R.dp : ∀ {v : V} {d : D}, noDict d = true → R K S H v d → Dp K H v d
  | _, _, _, .non => .non
  | _, _, _, .bl b => .bl b
  | _, _, _, .int i => .int i
  | _, _, _, .str x => .str x
  | _, _, n, .lst h r _ => .lst (LX.sq (h.imp (·.2) id)) (RA.dp n r)
  | _, _, n, .tup h r _ => .tup (tq h) (RA.dp n r)
  | _, _, n, .dik _ _ _ => nomatch n
  | _, _, n, .dit _ _ _ => nomatch n
theorem RA.dp : ∀ {v : List V} {d : List D}, noDictAll d = true → RA K S H v d → DpAll K H v d
  | _, _, _, .nil => .nil
  | _, _, n, .cons h r => by
    have q := Bool.and_eq_true _ _ ▸ n
    exact .cons (R.dp q.1 h) (RA.dp q.2 r)
end
/-- an operand: as R, but the object itself may be one that may be changed -/
inductive RB (K : PySem.W.Frag) (S : List Addr) (H : Hp) : V → D → Prop
  | non : RB K S H .non .none
  | bl (b : Bool) : RB K S H (.bl b) (.bool b)
  | int (i : Int) : RB K S H (.int i) (.int i)
  | str (x : Str) : RB K S H (.str x) (.str x)
  | lst {a : Addr} {xs : List V} {ds : List D} : LX K H a xs → RA K S H xs ds → ds.length ≤ sizeLine → RB K S H (.ref a) (.list ds)
  | tup {a : Addr} {xs : List V} {ds : List D} : (a ∉ S ∧ RdT H a xs) ∨ KT' K a xs → RA K S H xs ds → ds.length ≤ sizeLine → RB K S H (.ref a) (.tuple ds)
  | dik {a : Addr} {kvs : List (Key × V)} {ds : List (D × D)} : Rd H a (.dK kvs) → RK K S H kvs ds → RB K S H (.ref a) (.dict ds)
  | dit {a : Addr} {kvs : List (List Key × V)} {ds : List (D × D)} : Rd H a (.dT kvs) → RT K S H kvs ds → RB K S H (.ref a) (.dict ds)
theorem R.rb {v : V} {d : D} (r : R K S H v d) : RB K S H v d := by
  cases r with
  | lst h r l => exact .lst (h.imp (·.2) id) r l
  | tup h r l => exact .tup h r l
  | dik h e r => exact .dik e r
  | dit h e r => exact .dit e r
  | non => exact .non
  | bl b => exact .bl b
  | int i => exact .int i
  | str x => exact .str x
theorem RB.dp {v : V} {d : D} (n : noDict d = true) (r : RB K S H v d) : Dp K H v d := by
  cases r with
  | lst h r _ => exact .lst h.sq (r.dp n)
  | tup h r _ => exact .tup (tq h) (r.dp n)
  | dik e r => exact nomatch n
  | dit e r => exact nomatch n
  | non => exact .non
  | bl b => exact .bl b
  | int i => exact .int i
  | str x => exact .str x
end

/-! ### what a def owns: objects that it may change -/
inductive O where
  | lst (xs : List D)
  | dic (kvs : List (Key × D))
  | dit (kvs : List (List Key × D))
  /-- a law's source of drawn numbers -/
  | src
/-- a slot: unbound, data, or owned (made here: true; handed in: false) -/
inductive Sl where
  | un
  | d (x : D)
  | own (f : Bool) (o : O)
abbrev Env := List Sl

def srcK (q : Addr) (l m t : Int) : List (Key × V) := [(.inr "cells", .ref q), (.inr "left", .int l), (.inr "mixed", .int m), (.inr "turn", .int t)]
def SrcAt (H : Hp) (p q : Addr) : Prop := p ≠ q ∧ ∃ (c : List Int) (l m t : Int), H p = some (.dK (srcK q l m t)) ∧ H q = some (.lst (c.map V.int)) ∧ (∀ x ∈ c, 0 ≤ x) ∧ 0 ≤ l ∧ 0 ≤ m ∧ m < 2147483648
/-- v is the owned thing o; fp: its objects -/
def OwnP (K : PySem.W.Frag) (S : List Addr) (H : Hp) : V → O → List Addr → Prop
  | .ref p, .lst xs, fp => fp = [p] ∧ xs.length ≤ sizeLine ∧ ∃ vs, H p = some (.lst vs) ∧ RA K S H vs xs
  | .ref p, .dic kvs, fp => fp = [p] ∧ ∃ vs, H p = some (.dK vs) ∧ RK K S H vs (kvs.map fun q => (kD q.1, q.2)) ∧ vs.map (·.1) = kvs.map (·.1)
  | .ref p, .dit kvs, fp => fp = [p] ∧ ∃ vs, H p = some (.dT vs) ∧ RT K S H vs (kvs.map fun q => (.tuple (q.1.map kD), q.2)) ∧ vs.map (·.1) = kvs.map (·.1)
  | .ref p, .src, fp => ∃ q, fp = [p, q] ∧ SrcAt H p q
  | _, _, _ => False
section
variable {K : PySem.W.Frag} {S S' : List Addr} {H H' : Hp}
theorem OwnP.kp {v : V} {o : O} {fp : List Addr} (h : OwnP K S H v o fp) (k : Kp S H S' H') (e : ∀ a ∈ fp, H' a = H a) : OwnP K S' H' v o fp := by
  cases v with
  | ref p =>
    cases o with
    | lst xs =>
      obtain ⟨rfl, hl, vs, h1, h2⟩ := h
      exact ⟨rfl, hl, vs, by rw [e p (List.mem_singleton.mpr rfl)]; exact h1, h2.kp k⟩
    | dic kvs =>
      obtain ⟨rfl, vs, h1, h2, h3⟩ := h
      exact ⟨rfl, vs, by rw [e p (List.mem_singleton.mpr rfl)]; exact h1, h2.kp k, h3⟩
    | dit kvs =>
      obtain ⟨rfl, vs, h1, h2, h3⟩ := h
      exact ⟨rfl, vs, by rw [e p (List.mem_singleton.mpr rfl)]; exact h1, h2.kp k, h3⟩
    | src =>
      obtain ⟨q, rfl, ne, c, l, m, t, h1, h2, h3⟩ := h
      exact ⟨q, rfl, ne, c, l, m, t, by rw [e p (by simp)]; exact h1, by rw [e q (by simp)]; exact h2, h3⟩
  | _ => exact h.elim
theorem OwnP.trk {v : V} {o : O} {fp : List Addr} (h : OwnP K S H v o fp) : ∀ a ∈ fp, ∃ u, H a = some u := by
  cases v with
  | ref p =>
    cases o with
    | lst xs => obtain ⟨rfl, _, vs, h1, h2⟩ := h; intro a ha; rw [List.mem_singleton.mp ha]; exact ⟨_, h1⟩
    | dic xs => obtain ⟨rfl, vs, h1, h2⟩ := h; intro a ha; rw [List.mem_singleton.mp ha]; exact ⟨_, h1⟩
    | dit xs => obtain ⟨rfl, vs, h1, h2⟩ := h; intro a ha; rw [List.mem_singleton.mp ha]; exact ⟨_, h1⟩
    | src =>
      obtain ⟨q, rfl, ne, c, l, m, t, h1, h2, h3⟩ := h
      intro a ha
      rcases List.mem_cons.mp ha with rfl | ha
      · exact ⟨_, h1⟩
      · rw [List.mem_singleton.mp ha]; exact ⟨_, h2⟩
  | _ => exact h.elim
end

/-- the entry of a def: its heap, what was handed in, the objects that it may change, those that its callers may change -/
structure BI where
  K : PySem.W.Frag
  H0 : Hp
  vs0 : List V
  fps0 : Nat → List Addr
  SC : List Addr
  /-- objects that stand as they are, though they will be changed (a comprehension's list) -/
  fr : List (Addr × HO)

structure SR (B : BI) (S : List Addr) (σ : L2.St) (H : Hp) (ρ : Env) : Prop where
  len : ρ.length = σ.length
  dat : ∀ (i : Nat) (d : D), ρ[i]? = some (.d d) → ∃ v, σ[i]? = some (some v) ∧ R B.K S H v d
  own : ∃ fps : Nat → List Addr, (∀ (i : Nat) (f : Bool) (o : O), ρ[i]? = some (.own f o) → ∃ v, σ[i]? = some (some v) ∧ OwnP B.K S H v o (fps i) ∧ (∀ a ∈ fps i, a ∈ S ∧ ∀ p ∈ B.fr, p.1 ≠ a) ∧
      ((f = true ∧ ∀ a ∈ fps i, B.H0 a = none) ∨ (f = false ∧ B.vs0[i]? = some v ∧ fps i = B.fps0 i))) ∧
    ∀ (i j : Nat) (f : Bool) (o : O) (g : Bool) (o' : O), i ≠ j → ρ[i]? = some (.own f o) → ρ[j]? = some (.own g o') → ∀ a ∈ fps i, a ∉ fps j
  keep : ∀ (a : Addr) (o : HO), (∀ i, a ∉ B.fps0 i) → B.H0 a = some o → H a = some o
  trk : ∀ a ∈ S, ∃ o, H a = some o
  sub : ∀ a ∈ B.SC, a ∈ S
  there : ∀ a ∈ B.SC, ∃ o, B.H0 a = some o
  fsub : ∀ i, ∀ a ∈ B.fps0 i, a ∈ B.SC
  pin : ∀ p ∈ B.fr, H p.1 = some p.2 ∧ p.1 ∈ S

section
variable {B : BI} {S S' : List Addr} {σ : L2.St} {H H' : Hp} {ρ : Env}
/-- nothing that is owned is changed -/
theorem SR.same (h : SR B S σ H ρ) (s : Same H H') : SR B S σ H' ρ where
  len := h.len
  dat := fun i d e => by obtain ⟨v, h1, h2⟩ := h.dat i d e; exact ⟨v, h1, h2.kp (Kp.same s)⟩
  own := by
    obtain ⟨fps, h1, h2⟩ := h.own
    refine ⟨fps, fun i f o e => ?_, h2⟩
    obtain ⟨v, g1, g2, g3, g4⟩ := h1 i f o e
    refine ⟨v, g1, g2.kp (Kp.same s) fun a ha => ?_, g3, g4⟩
    obtain ⟨u, hu⟩ := g2.trk a ha
    rw [hu, s a u hu]
  keep := fun a o n e => s a o (h.keep a o n e)
  trk := fun a ha => by obtain ⟨o, e⟩ := h.trk a ha; exact ⟨o, s a o e⟩
  sub := h.sub
  there := h.there
  fsub := h.fsub
  pin := fun p hp => ⟨s _ _ (h.pin p hp).1, (h.pin p hp).2⟩
/-- a slot gets data -/
theorem SR.setD (h : SR B S σ H ρ) (i : Nat) {v : V} {d : D} (r : R B.K S H v d) : SR B S (σ.set i (some v)) H (ρ.set i (.d d)) where
  len := by rw [List.length_set, List.length_set, h.len]
  dat := fun j e hj => by
    rw [List.getElem?_set] at hj
    by_cases c : i = j
    · subst c
      rw [if_pos rfl] at hj
      split at hj
      · cases hj
        rename_i hl
        exact ⟨v, by rw [List.getElem?_set, if_pos rfl, if_pos (by rw [← h.len]; exact hl)], r⟩
      · cases hj
    · rw [if_neg c] at hj
      obtain ⟨u, h1, h2⟩ := h.dat j e hj
      exact ⟨u, by rw [List.getElem?_set, if_neg c]; exact h1, h2⟩
  own := by
    obtain ⟨fps, h1, h2⟩ := h.own
    have ne : ∀ j f o, (ρ.set i (.d d))[j]? = some (.own f o) → i ≠ j ∧ ρ[j]? = some (.own f o) := fun j f o hj => by
      rw [List.getElem?_set] at hj
      by_cases c : i = j
      · rw [if_pos c] at hj; split at hj <;> cases hj
      · rw [if_neg c] at hj; exact ⟨c, hj⟩
    refine ⟨fps, fun j f o hj => ?_, fun j k f o g o' hjk hj hk => h2 j k f o g o' hjk (ne _ _ _ hj).2 (ne _ _ _ hk).2⟩
    obtain ⟨c, hj⟩ := ne _ _ _ hj
    obtain ⟨u, g1, g2⟩ := h1 j f o hj
    exact ⟨u, by rw [List.getElem?_set, if_neg c]; exact g1, g2⟩
  keep := h.keep
  trk := h.trk
  sub := h.sub
  there := h.there
  fsub := h.fsub
  pin := h.pin
/-- a slot is wiped -/
theorem SR.wipe (h : SR B S σ H ρ) (i : Nat) (x : Option V) : SR B S (σ.set i x) H (ρ.set i .un) where
  len := by rw [List.length_set, List.length_set, h.len]
  dat := fun j e hj => by
    rw [List.getElem?_set] at hj
    by_cases c : i = j
    · rw [if_pos c] at hj; split at hj <;> cases hj
    · rw [if_neg c] at hj
      obtain ⟨u, h1, h2⟩ := h.dat j e hj
      exact ⟨u, by rw [List.getElem?_set, if_neg c]; exact h1, h2⟩
  own := by
    obtain ⟨fps, h1, h2⟩ := h.own
    have ne : ∀ j f o, (ρ.set i .un)[j]? = some (.own f o) → i ≠ j ∧ ρ[j]? = some (.own f o) := fun j f o hj => by
      rw [List.getElem?_set] at hj
      by_cases c : i = j
      · rw [if_pos c] at hj; split at hj <;> cases hj
      · rw [if_neg c] at hj; exact ⟨c, hj⟩
    refine ⟨fps, fun j f o hj => ?_, fun j k f o g o' hjk hj hk => h2 j k f o g o' hjk (ne _ _ _ hj).2 (ne _ _ _ hk).2⟩
    obtain ⟨c, hj⟩ := ne _ _ _ hj
    obtain ⟨u, g1, g2⟩ := h1 j f o hj
    exact ⟨u, by rw [List.getElem?_set, if_neg c]; exact g1, g2⟩
  keep := h.keep
  trk := h.trk
  sub := h.sub
  there := h.there
  fsub := h.fsub
  pin := h.pin
theorem SR.fresh0 (h : SR B S σ H ρ) {a : Addr} (n : H a = none) : B.H0 a = none := by
  cases e : B.H0 a with
  | none => rfl
  | some o =>
    by_cases c : a ∈ B.SC
    · obtain ⟨u, hu⟩ := h.trk a (h.sub a c)
      rw [n] at hu; cases hu
    · have := h.keep a o (fun i m => c (h.fsub i a m)) e
      rw [n] at this; cases this
/-- a slot gets a new owned thing -/
theorem SR.setO (h : SR B S σ H ρ) (s : Same H H') {i : Nat} {v : V} {o : O} {fp : List Addr} (hi : ∀ a ∈ fp, H a = none) (w : OwnP B.K (fp ++ S) H' v o fp) :
    SR B (fp ++ S) (σ.set i (some v)) H' (ρ.set i (.own true o)) where
  len := by rw [List.length_set, List.length_set, h.len]
  dat := fun j e hj => by
    rw [List.getElem?_set] at hj
    by_cases c : i = j
    · rw [if_pos c] at hj; split at hj <;> cases hj
    · rw [if_neg c] at hj
      obtain ⟨u, h1, h2⟩ := h.dat j e hj
      refine ⟨u, by rw [List.getElem?_set, if_neg c]; exact h1, h2.kp fun a x n ea => ⟨fun m => ?_, s _ _ ea⟩⟩
      rcases List.mem_append.mp m with m | m
      · rw [hi a m] at ea; cases ea
      · exact n m
  own := by
    obtain ⟨fps, h1, h2⟩ := h.own
    have old : ∀ j f o', (ρ.set i (.own true o))[j]? = some (.own f o') → i ≠ j → ρ[j]? = some (.own f o') := fun j f o' hj c => by
      rw [List.getElem?_set, if_neg c] at hj; exact hj
    have kp : Kp S H (fp ++ S) H' := fun a x n ea => ⟨fun m => by
      rcases List.mem_append.mp m with m | m
      · rw [hi a m] at ea; cases ea
      · exact n m, s _ _ ea⟩
    refine ⟨fun j => if j = i then fp else fps j, fun j f o' hj => ?_, fun j k f o1 g o2 hjk hj hk a ha => ?_⟩
    · by_cases c : i = j
      · subst c
        rw [List.getElem?_set, if_pos rfl] at hj
        split at hj
        · cases hj
          rename_i hl
          simp only [if_true]
          refine ⟨v, by rw [List.getElem?_set, if_pos rfl, if_pos (by rw [← h.len]; exact hl)], w, fun a ha => ⟨List.mem_append_left _ ha, fun p hp e => ?_⟩, .inl ⟨by first | trivial | rfl, fun a ha => h.fresh0 (hi a ha)⟩⟩
          have := (h.pin p hp).1
          rw [e, hi a ha] at this; cases this
        · cases hj
      · obtain ⟨u, g1, g2, g3, g4⟩ := h1 j f o' (old j f o' hj c)
        simp only [if_neg (Ne.symm c)]
        refine ⟨u, by rw [List.getElem?_set, if_neg c]; exact g1, g2.kp kp fun a ha => ?_, fun a ha => ⟨List.mem_append_right _ (g3 a ha).1, (g3 a ha).2⟩, g4⟩
        obtain ⟨x, hx⟩ := g2.trk a ha
        rw [hx, s _ _ hx]
    · have tr : ∀ j f o', ρ[j]? = some (.own f o') → ∀ a ∈ fps j, ¬ a ∈ fp := fun j f o' hj a ha hf => by
        obtain ⟨u, g1, g2, _⟩ := h1 j f o' hj
        obtain ⟨x, hx⟩ := g2.trk a ha
        rw [hi a hf] at hx; cases hx
      by_cases c : i = j
      · subst c
        simp only [if_true] at ha
        simp only [if_neg (Ne.symm hjk)]
        exact fun hb => tr k _ _ (old k _ _ hk hjk) a hb ha
      · simp only [if_neg (Ne.symm c)] at ha
        by_cases c2 : i = k
        · subst c2
          simp only [if_true]
          exact tr j _ _ (old j _ _ hj c) a ha
        · simp only [if_neg (Ne.symm c2)]
          exact h2 j k _ _ _ _ hjk (old j _ _ hj c) (old k _ _ hk c2) a ha
  keep := fun a x n e => s _ _ (h.keep a x n e)
  trk := fun a ha => by
    rcases List.mem_append.mp ha with ha | ha
    · exact w.trk a ha
    · obtain ⟨x, e⟩ := h.trk a ha; exact ⟨x, s _ _ e⟩
  sub := fun a ha => List.mem_append_right _ (h.sub a ha)
  there := h.there
  fsub := h.fsub
  pin := fun p hp => ⟨s _ _ (h.pin p hp).1, List.mem_append_right _ (h.pin p hp).2⟩
/-- an owned thing changes: H' is H but at its objects -/
theorem SR.updO (h : SR B S σ H ρ) {i : Nat} {f : Bool} {o : O} (e : ρ[i]? = some (.own f o)) :
    ∃ v fp, σ[i]? = some (some v) ∧ OwnP B.K S H v o fp ∧ (∀ a ∈ fp, a ∈ S) ∧ ∀ H' o', (∀ a, a ∉ fp → H' a = H a) → OwnP B.K S H' v o' fp → Kp S H S H' ∧ SR B S σ H' (ρ.set i (.own f o')) := by
  obtain ⟨fps, h1, h2⟩ := id h.own
  obtain ⟨v, g1, g2, g3, g4⟩ := h1 i f o e
  refine ⟨v, fps i, g1, g2, fun a ha => (g3 a ha).1, fun H' o' hq w => ?_⟩
  have kp : Kp S H S H' := fun a x n ea => ⟨n, by rw [hq a fun m => n (g3 a m).1]; exact ea⟩
  refine ⟨kp, ?_⟩
  have old : ∀ (j : Nat) (g : Bool) (o'' : O), (ρ.set i (Sl.own f o'))[j]? = some (Sl.own g o'') → ∃ u, ρ[j]? = some (Sl.own g u) := fun j g o'' hj => by
    rw [List.getElem?_set] at hj
    by_cases c : i = j
    · rw [if_pos c] at hj
      split at hj
      · cases hj; exact ⟨o, by rw [← c]; exact e⟩
      · cases hj
    · rw [if_neg c] at hj; exact ⟨o'', hj⟩
  refine { len := by rw [List.length_set, h.len], dat := fun j d hj => ?_, own := ⟨fps, fun j g o'' hj => ?_, fun j k g o1 g' o2 hjk hj hk => ?_⟩, keep := fun a x n ea => ?_, trk := fun a ha => ?_, sub := h.sub, there := h.there, fsub := h.fsub, pin := fun p hp => ?_ }
  · rw [List.getElem?_set] at hj
    by_cases c : i = j
    · rw [if_pos c] at hj; split at hj <;> cases hj
    · rw [if_neg c] at hj
      obtain ⟨u, q1, q2⟩ := h.dat j d hj
      exact ⟨u, q1, q2.kp kp⟩
  · rw [List.getElem?_set] at hj
    by_cases c : i = j
    · subst c
      rw [if_pos rfl] at hj
      split at hj
      · cases hj; exact ⟨v, g1, w, g3, g4⟩
      · cases hj
    · rw [if_neg c] at hj
      obtain ⟨u, q1, q2, q3, q4⟩ := h1 j g o'' hj
      exact ⟨u, q1, q2.kp kp fun a ha => hq a fun m => h2 i j _ _ _ _ c e hj a m ha, q3, q4⟩
  · obtain ⟨u1, e1⟩ := old j g o1 hj
    obtain ⟨u2, e2⟩ := old k g' o2 hk
    exact h2 j k _ _ _ _ hjk e1 e2
  · by_cases m : a ∈ fps i
    · rcases g4 with ⟨_, g4⟩ | ⟨_, _, g4⟩
      · rw [g4 a m] at ea; cases ea
      · exact absurd (g4 ▸ m) (n i)
    · rw [hq a m]; exact h.keep a x n ea
  · by_cases m : a ∈ fps i
    · exact w.trk a m
    · rw [hq a m]; exact h.trk a ha
  · obtain ⟨q1, q2⟩ := h.pin p hp
    exact ⟨by rw [hq p.1 fun m => (g3 _ m).2 p hp rfl]; exact q1, q2⟩
def O.dat : O → Option D
  | .lst xs => some (.list xs)
  | .dic kvs => some (.dict (kvs.map fun q => (kD q.1, q.2)))
  | .dit kvs => some (.dict (kvs.map fun q => (.tuple (q.1.map kD), q.2)))
  | .src => none
theorem OwnP.dat {K : PySem.W.Frag} {v : V} {o : O} {fp : List Addr} (w : OwnP K S H v o fp) {d : D} (e : o.dat = some d) (h : ∀ a ∈ S', a ∈ S) (hn : ∀ a ∈ fp, a ∉ S') : R K S' H v d := by
  cases v with
  | ref p =>
    cases o with
    | lst xs => cases e; obtain ⟨rfl, hl, vs, q1, q2⟩ := w; exact .lst (.inl ⟨hn p (List.mem_singleton.mpr rfl), .inl q1⟩) (q2.sub h) hl
    | dic xs => cases e; obtain ⟨rfl, vs, q1, q2, _⟩ := w; exact .dik (hn p (List.mem_singleton.mpr rfl)) (.inl q1) (q2.kp (Kp.sub h))
    | dit xs => cases e; obtain ⟨rfl, vs, q1, q2, _⟩ := w; exact .dit (hn p (List.mem_singleton.mpr rfl)) (.inl q1) (q2.kp (Kp.sub h))
    | src => cases e
  | _ => exact w.elim
/-- what was owned becomes data -/
theorem SR.freeze (h : SR B S σ H ρ) {i : Nat} {o : O} {d : D} (e : ρ[i]? = some (.own true o)) (ed : o.dat = some d) : ∃ S', Kp S H S' H ∧ SR B S' σ H (ρ.set i (.d d)) := by
  obtain ⟨fps, h1, h2⟩ := id h.own
  obtain ⟨v, g1, g2, g3, g4⟩ := h1 i true o e
  have sub : ∀ a ∈ S.filter (fun a => !(fps i).contains a), a ∈ S ∧ a ∉ fps i := fun a ha => by
    obtain ⟨q1, q2⟩ := List.mem_filter.mp ha
    exact ⟨q1, fun m => by simp [m] at q2⟩
  have mk : ∀ a ∈ S, a ∉ fps i → a ∈ S.filter (fun a => !(fps i).contains a) := fun a ha n => List.mem_filter.mpr ⟨ha, by simp [n]⟩
  refine ⟨S.filter fun a => !(fps i).contains a, Kp.sub fun a ha => (sub a ha).1, ?_⟩
  have kp : Kp S H (S.filter fun a => !(fps i).contains a) H := Kp.sub fun a ha => (sub a ha).1
  refine { len := by rw [List.length_set, h.len], dat := fun j d' hj => ?_, own := ⟨fps, fun j g o'' hj => ?_, fun j k g o1 g' o2 hjk hj hk => ?_⟩, keep := h.keep, trk := fun a ha => h.trk a (sub a ha).1, sub := fun a ha => mk a (h.sub a ha) fun m => ?_, there := h.there, fsub := h.fsub, pin := fun p hp => ?_ }
  · rw [List.getElem?_set] at hj
    by_cases c : i = j
    · subst c
      rw [if_pos rfl] at hj
      split at hj
      · cases hj; exact ⟨v, g1, g2.dat ed (fun a ha => (sub a ha).1) fun a ha m => (sub a m).2 ha⟩
      · cases hj
    · rw [if_neg c] at hj
      obtain ⟨u, q1, q2⟩ := h.dat j d' hj
      exact ⟨u, q1, q2.kp kp⟩
  · rw [List.getElem?_set] at hj
    by_cases c : i = j
    · rw [if_pos c] at hj; split at hj <;> cases hj
    · rw [if_neg c] at hj
      obtain ⟨u, q1, q2, q3, q4⟩ := h1 j g o'' hj
      exact ⟨u, q1, q2.kp kp fun _ _ => rfl, fun a ha => ⟨mk a (q3 a ha).1 fun m => h2 i j _ _ _ _ c e hj a m ha, (q3 a ha).2⟩, q4⟩
  · rw [List.getElem?_set] at hj hk
    by_cases c : i = j
    · rw [if_pos c] at hj; split at hj <;> cases hj
    · by_cases c2 : i = k
      · rw [if_pos c2] at hk; split at hk <;> cases hk
      · rw [if_neg c] at hj; rw [if_neg c2] at hk
        exact h2 j k _ _ _ _ hjk hj hk
  · rcases g4 with ⟨_, g4⟩ | ⟨z, _⟩
    · obtain ⟨x, hx⟩ := h.there a ha
      rw [g4 a m] at hx; cases hx
    · cases z
  · obtain ⟨q1, q2⟩ := h.pin p hp
    exact ⟨q1, mk _ q2 fun m => (g3 _ m).2 p hp rfl⟩
/-- an object in the making is set aside, and taken back -/
theorem SR.pinned (h : SR B S σ H ρ) {a : Addr} {o : HO} (n : H a = none) : SR { B with fr := (a, o) :: B.fr } (a :: S) σ (upd H a o) ρ := by
  have s : Same H (upd H a o) := fun b x e => by rw [upd_ne (ne_of_none e n)]; exact e
  have kp : Kp S H (a :: S) (upd H a o) := fun b x m e => ⟨fun q => by
    rcases List.mem_cons.mp q with rfl | q
    · rw [n] at e; cases e
    · exact m q, s _ _ e⟩
  obtain ⟨fps, h1, h2⟩ := id h.own
  refine { len := h.len, dat := fun j d hj => ?_, own := ⟨fps, fun j g o'' hj => ?_, h2⟩, keep := fun b x m e => s _ _ (h.keep b x m e), trk := fun b hb => ?_, sub := fun b hb => List.mem_cons_of_mem _ (h.sub b hb), there := h.there, fsub := h.fsub, pin := fun p hp => ?_ }
  · obtain ⟨u, q1, q2⟩ := h.dat j d hj
    exact ⟨u, q1, q2.kp kp⟩
  · obtain ⟨u, q1, q2, q3, q4⟩ := h1 j g o'' hj
    have ne : ∀ b ∈ fps j, b ≠ a := fun b hb e => by
      obtain ⟨x, hx⟩ := q2.trk b hb
      rw [e, n] at hx; cases hx
    refine ⟨u, q1, q2.kp kp fun b hb => upd_ne (ne b hb), fun b hb => ⟨List.mem_cons_of_mem _ (q3 b hb).1, fun p hp => ?_⟩, q4⟩
    rcases List.mem_cons.mp hp with rfl | hp
    · exact Ne.symm (ne b hb)
    · exact (q3 b hb).2 p hp
  · rcases List.mem_cons.mp hb with rfl | hb
    · exact ⟨o, upd_same⟩
    · obtain ⟨x, e⟩ := h.trk b hb; exact ⟨x, s _ _ e⟩
  · rcases List.mem_cons.mp hp with rfl | hp
    · exact ⟨upd_same, List.mem_cons_self⟩
    · exact ⟨s _ _ (h.pin p hp).1, List.mem_cons_of_mem _ (h.pin p hp).2⟩
theorem SR.repin {a : Addr} {o o' : HO} {fr : List (Addr × HO)} (h : SR { B with fr := (a, o) :: fr } S σ H ρ) (ha : ∀ p ∈ fr, p.1 ≠ a) (h0 : B.H0 a = none) : SR { B with fr := (a, o') :: fr } S σ (upd H a o') ρ ∧ Kp S H S (upd H a o') := by
  obtain ⟨p1, p2⟩ := h.pin (a, o) List.mem_cons_self
  have kp : Kp S H S (upd H a o') := fun b x m e => ⟨m, by rw [upd_ne fun q => m (by rw [q]; exact p2)]; exact e⟩
  refine ⟨?_, kp⟩
  obtain ⟨fps, h1, h2⟩ := id h.own
  refine { len := h.len, dat := fun j d hj => ?_, own := ⟨fps, fun j g o'' hj => ?_, h2⟩, keep := fun b x m e => ?_, trk := fun b hb => ?_, sub := h.sub, there := h.there, fsub := h.fsub, pin := fun p hp => ?_ }
  · obtain ⟨u, q1, q2⟩ := h.dat j d hj
    exact ⟨u, q1, q2.kp kp⟩
  · obtain ⟨u, q1, q2, q3, q4⟩ := h1 j g o'' hj
    refine ⟨u, q1, q2.kp kp fun b hb => upd_ne (Ne.symm ((q3 b hb).2 (a, o) List.mem_cons_self)), fun b hb => ⟨(q3 b hb).1, fun p hp => ?_⟩, q4⟩
    rcases List.mem_cons.mp hp with rfl | hp
    · exact (q3 b hb).2 (a, o) List.mem_cons_self
    · exact (q3 b hb).2 p (List.mem_cons_of_mem _ hp)
  · have e : B.H0 b = some x := e
    have : b ≠ a := fun q => by rw [q, h0] at e; cases e
    rw [upd_ne this]
    exact h.keep b x m e
  · by_cases c : b = a
    · rw [c]; exact ⟨o', upd_same⟩
    · rw [upd_ne c]; exact h.trk b hb
  · rcases List.mem_cons.mp hp with rfl | hp
    · exact ⟨upd_same, p2⟩
    · obtain ⟨q1, q2⟩ := h.pin p (List.mem_cons_of_mem _ hp)
      exact ⟨by rw [upd_ne (ha p hp)]; exact q1, q2⟩
theorem SR.unpin {fr fr' : List (Addr × HO)} (h : SR { B with fr := fr } S σ H ρ) (hs : ∀ p ∈ fr', p ∈ fr) (hS : ∀ a ∈ S', a ∈ S) (hk : ∀ a ∈ S, a ∉ S' → ∃ p ∈ fr, p.1 = a ∧ p ∉ fr') (h0 : ∀ p ∈ fr, p ∉ fr' → B.H0 p.1 = none) (hd : ∀ p ∈ fr', ∀ q ∈ fr, q ∉ fr' → p.1 ≠ q.1) :
    SR { B with fr := fr' } S' σ H ρ := by
  obtain ⟨fps, h1, h2⟩ := id h.own
  have kp : Kp S H S' H := Kp.sub hS
  have keepIn : ∀ a ∈ S, (∀ q ∈ fr, q ∉ fr' → q.1 ≠ a) → a ∈ S' := fun a ha n => by
    by_cases c : a ∈ S'
    · exact c
    · obtain ⟨p, hp, e, hn⟩ := hk a ha c
      exact absurd e (n p hp hn)
  refine { len := h.len, dat := fun j d hj => ?_, own := ⟨fps, fun j g o'' hj => ?_, h2⟩, keep := h.keep, trk := fun b hb => h.trk b (hS b hb), sub := fun b hb => keepIn b (h.sub b hb) fun q hq hn e => ?_, there := h.there, fsub := h.fsub, pin := fun p hp => ⟨(h.pin p (hs p hp)).1, keepIn _ (h.pin p (hs p hp)).2 fun q hq hn => Ne.symm (hd p hp q hq hn)⟩ }
  · obtain ⟨u, q1, q2⟩ := h.dat j d hj
    exact ⟨u, q1, q2.kp kp⟩
  · obtain ⟨u, q1, q2, q3, q4⟩ := h1 j g o'' hj
    exact ⟨u, q1, q2.kp kp fun _ _ => rfl, fun b hb => ⟨keepIn b (q3 b hb).1 fun q hq _ => (q3 b hb).2 q hq, fun p hp => (q3 b hb).2 p (hs p hp)⟩, q4⟩
  · obtain ⟨x, hx⟩ := h.there b hb
    have hx : B.H0 b = some x := hx
    rw [← e, h0 q hq hn] at hx; cases hx
def pinsOf (fp : List Addr) (ct : Addr → HO) : List (Addr × HO) := fp.map fun a => (a, ct a)
theorem mem_pinsOf {fp : List Addr} {ct : Addr → HO} {p : Addr × HO} (h : p ∈ pinsOf fp ct) : p.1 ∈ fp ∧ p.2 = ct p.1 := by
  obtain ⟨a, ha, rfl⟩ := List.mem_map.mp h
  exact ⟨ha, rfl⟩
theorem pinsOf_mem {fp : List Addr} {ct : Addr → HO} {a : Addr} (h : a ∈ fp) : (a, ct a) ∈ pinsOf fp ct := List.mem_map.mpr ⟨a, h, rfl⟩
theorem kp_newL {fp : List Addr} (s : Same H H') (n : ∀ a ∈ fp, H a = none) : Kp S H (fp ++ S) H' := fun a x m e => ⟨fun q => by
  rcases List.mem_append.mp q with q | q
  · rw [n a q] at e; cases e
  · exact m q, s _ _ e⟩
/-- new objects are set aside -/
theorem SR.pins (h : SR B S σ H ρ) (s : Same H H') {fp : List Addr} {ct : Addr → HO} (n : ∀ a ∈ fp, H a = none) (e : ∀ a ∈ fp, H' a = some (ct a)) : SR { B with fr := pinsOf fp ct ++ B.fr } (fp ++ S) σ H' ρ := by
  have kp : Kp S H (fp ++ S) H' := kp_newL s n
  obtain ⟨fps, h1, h2⟩ := id h.own
  refine { len := h.len, dat := fun j d hj => ?_, own := ⟨fps, fun j g o'' hj => ?_, h2⟩, keep := fun b x m e => s _ _ (h.keep b x m e), trk := fun b hb => ?_, sub := fun b hb => List.mem_append_right _ (h.sub b hb), there := h.there, fsub := h.fsub, pin := fun p hp => ?_ }
  · obtain ⟨u, q1, q2⟩ := h.dat j d hj
    exact ⟨u, q1, q2.kp kp⟩
  · obtain ⟨u, q1, q2, q3, q4⟩ := h1 j g o'' hj
    have ne : ∀ b ∈ fps j, b ∉ fp := fun b hb m => by
      obtain ⟨x, hx⟩ := q2.trk b hb
      rw [n b m] at hx; cases hx
    refine ⟨u, q1, q2.kp kp fun b hb => ?_, fun b hb => ⟨List.mem_append_right _ (q3 b hb).1, fun p hp => ?_⟩, q4⟩
    · obtain ⟨x, hx⟩ := q2.trk b hb
      rw [hx, s _ _ hx]
    · rcases List.mem_append.mp hp with hp | hp
      · intro z
        exact ne b hb (z ▸ (mem_pinsOf hp).1)
      · exact (q3 b hb).2 p hp
  · rcases List.mem_append.mp hb with hb | hb
    · exact ⟨_, e b hb⟩
    · obtain ⟨x, e⟩ := h.trk b hb; exact ⟨x, s _ _ e⟩
  · rcases List.mem_append.mp hp with hp | hp
    · obtain ⟨q1, q2⟩ := mem_pinsOf hp
      exact ⟨by rw [q2]; exact e _ q1, List.mem_append_left _ q1⟩
    · exact ⟨s _ _ (h.pin p hp).1, List.mem_append_right _ (h.pin p hp).2⟩
/-- what was set aside is owned by a slot -/
theorem SR.setP {fp : List Addr} {ct : Addr → HO} (h : SR { B with fr := pinsOf fp ct ++ B.fr } S σ H ρ) {i : Nat} {v : V} {o : O} (w : OwnP B.K S H v o fp) (h0 : ∀ a ∈ fp, B.H0 a = none) (hd : ∀ p ∈ B.fr, p.1 ∉ fp) :
    SR B S (σ.set i (some v)) H (ρ.set i (.own true o)) := by
  obtain ⟨fps, h1, h2⟩ := id h.own
  have old : ∀ (j : Nat) (f : Bool) (o' : O), (ρ.set i (Sl.own true o))[j]? = some (Sl.own f o') → i ≠ j → ρ[j]? = some (Sl.own f o') := fun j f o' hj c => by
    rw [List.getElem?_set, if_neg c] at hj; exact hj
  have dj : ∀ (j : Nat) (f : Bool) (o' : O), ρ[j]? = some (Sl.own f o') → ∀ a ∈ fps j, a ∉ fp := fun j f o' hj a ha m => by
    obtain ⟨_, _, _, g3, _⟩ := h1 j f o' hj
    exact (g3 a ha).2 _ (List.mem_append_left _ (pinsOf_mem m)) rfl
  refine { len := by rw [List.length_set, List.length_set, h.len], dat := fun j e hj => ?_, own := ⟨fun j => if j = i then fp else fps j, fun j f o' hj => ?_, fun j k f o1 g o2 hjk hj hk a ha => ?_⟩, keep := h.keep, trk := h.trk, sub := h.sub, there := h.there, fsub := h.fsub, pin := fun p hp => h.pin p (List.mem_append_right _ hp) }
  · rw [List.getElem?_set] at hj
    by_cases c : i = j
    · rw [if_pos c] at hj; split at hj <;> cases hj
    · rw [if_neg c] at hj
      obtain ⟨u, h1, h2⟩ := h.dat j e hj
      exact ⟨u, by rw [List.getElem?_set, if_neg c]; exact h1, h2⟩
  · by_cases c : i = j
    · subst c
      rw [List.getElem?_set, if_pos rfl] at hj
      split at hj
      · cases hj
        rename_i hl
        simp only [if_true]
        refine ⟨v, by rw [List.getElem?_set, if_pos rfl, if_pos (by rw [← h.len]; exact hl)], w, fun a ha => ⟨(h.pin _ (List.mem_append_left _ (pinsOf_mem ha))).2, fun p hp e => hd p hp (e ▸ ha)⟩, .inl ⟨by first | trivial | rfl, h0⟩⟩
      · cases hj
    · obtain ⟨u, g1, g2, g3, g4⟩ := h1 j f o' (old j f o' hj c)
      simp only [if_neg (Ne.symm c)]
      exact ⟨u, by rw [List.getElem?_set, if_neg c]; exact g1, g2, fun a ha => ⟨(g3 a ha).1, fun p hp => (g3 a ha).2 p (List.mem_append_right _ hp)⟩, g4⟩
  · by_cases c : i = j
    · subst c
      simp only [if_true] at ha
      simp only [if_neg (Ne.symm hjk)]
      exact fun hb => dj k _ _ (old k _ _ hk hjk) a hb ha
    · simp only [if_neg (Ne.symm c)] at ha
      by_cases c2 : i = k
      · subst c2
        simp only [if_true]
        exact dj j _ _ (old j _ _ hj c) a ha
      · simp only [if_neg (Ne.symm c2)]
        exact h2 j k _ _ _ _ hjk (old j _ _ hj c) (old k _ _ hk c2) a ha
end
end DL

/-! DL2: readings over data: expressions, tests, operators. -/
namespace DL
open PySem PySem.Spec PyProof.Rows L2

/-- what an expression hands on: data, or the owned thing of a slot -/
inductive Op where
  | v (d : D)
  | s (i : Nat)
def Op.get (ρ : Env) : Op → Option D
  | .v d => some d
  | .s i => match ρ[i]? with
    | some (.own _ (.lst xs)) => some (.list xs)
    | some (.own _ (.dic kvs)) => some (.dict (kvs.map fun q => (kD q.1, q.2)))
    | some (.own _ (.dit kvs)) => some (.dict (kvs.map fun q => (.tuple (q.1.map kD), q.2)))
    | _ => none
def OpAt (B : BI) (S : List Addr) (σ : L2.St) (H : Hp) (x : V) : Op → Prop
  | .v d => R B.K S H x d
  | .s i => σ[i]? = some (some x)
section
variable {B : BI} {S S' : List Addr} {σ : L2.St} {H H' : Hp} {ρ : Env} {x : V} {o : Op} {d : D}
theorem OpAt.kp (h : OpAt B S σ H x o) (k : Kp S H S' H') : OpAt B S' σ H' x o := by
  cases o with
  | v d => exact R.kp k h
  | s i => exact h
theorem OpAt.get (h : OpAt B S σ H x o) (r : SR B S σ H ρ) (e : o.get ρ = some d) : RB B.K S H x d := by
  cases o with
  | v d' => cases e; exact R.rb h
  | s i =>
    have h : σ[i]? = some (some x) := h
    obtain ⟨fps, g, _⟩ := r.own
    have e : (match ρ[i]? with
      | some (.own _ (.lst xs)) => some (.list xs)
      | some (.own _ (.dic kvs)) => some (.dict (kvs.map fun q => (kD q.1, q.2)))
      | some (.own _ (.dit kvs)) => some (.dict (kvs.map fun q => (.tuple (q.1.map kD), q.2)))
      | _ => none) = some d := e
    cases hi : ρ[i]? with
    | none => rw [hi] at e; cases e
    | some sl =>
      rw [hi] at e
      cases sl with
      | un => cases e
      | d _ => cases e
      | own f o =>
        obtain ⟨v, e1, e2, _⟩ := g i _ _ hi
        rw [h] at e1; cases e1
        cases o with
        | lst xs => cases e; cases x <;> first | exact e2.elim | (obtain ⟨_, hl, vs, q1, q2⟩ := e2; exact .lst (.inl (.inl q1)) q2 hl)
        | dic xs => cases e; cases x <;> first | exact e2.elim | (obtain ⟨_, vs, q1, q2, _⟩ := e2; exact .dik (.inl q1) q2)
        | dit xs => cases e; cases x <;> first | exact e2.elim | (obtain ⟨_, vs, q1, q2, _⟩ := e2; exact .dit (.inl q1) q2)
        | src => cases e
end

/-- readings over data -/
abbrev ET := Env → (Op → Env → Prop) → Prop
abbrev ETT := Env → (Bool → Env → Prop) → Prop
abbrev ETA := Env → (List Op → Env → Prop) → Prop
def wD (o : Option D) (p : D → Prop) : Prop := match o with
  | some d => p d
  | none => False
@[simp] theorem wD_some (d : D) (p : D → Prop) : wD (some d) p = p d := rfl

def bE (B : BI) (t : ET) : TE := fun σ H Q => ∃ S ρ, SR B S σ H ρ ∧ t ρ fun o ρ' => ∀ x S' H', Kp S H S' H' → SR B S' σ H' ρ' → OpAt B S' σ H' x o → Q x H'
def bT (B : BI) (t : ETT) : TT := fun σ H Q => ∃ S ρ, SR B S σ H ρ ∧ t ρ fun b ρ' => ∀ S' H', Kp S H S' H' → SR B S' σ H' ρ' → Q b H'
/-- the operands as they stand at the end of all -/
inductive OpsAt (B : BI) (S : List Addr) (σ : L2.St) (H : Hp) : List V → List Op → Prop
  | nil : OpsAt B S σ H [] []
  | cons {x : V} {o : Op} {xs : List V} {os : List Op} : OpAt B S σ H x o → OpsAt B S σ H xs os → OpsAt B S σ H (x :: xs) (o :: os)
def bA (B : BI) (t : ETA) : TA := fun σ H Q => ∃ S ρ, SR B S σ H ρ ∧ t ρ fun os ρ' => ∀ xs S' H', Kp S H S' H' → SR B S' σ H' ρ' → OpsAt B S' σ H' xs os → Q xs H'

theorem peOf {X : Cx} {e : Expr} {t t' : TE} (h : PE X e t) (i : ∀ σ H Q, t' σ H Q → t σ H Q) : PE X e t' := ⟨fun pins s σ H Q I q => h.run pins s σ H Q I (i σ H Q q)⟩
theorem ptOf {X : Cx} {e : Expr} {t t' : TT} (h : PT X e t) (i : ∀ σ H Q, t' σ H Q → t σ H Q) : PT X e t' := ⟨fun pins s σ H Q I q => h.run pins s σ H Q I (i σ H Q q)⟩
theorem pwOf {X : Cx} {e : Expr} {t t' : TT} (h : PW X e t) (i : ∀ σ H Q, t' σ H Q → t σ H Q) : PW X e t' := ⟨fun wh pins s σ H Q I q => h.run wh pins s σ H Q I (i σ H Q q)⟩
theorem psOf {X : Cx} {e : Stmt} {t t' : TS} (h : PS X e t) (i : ∀ D σ H, t' D σ H → t D σ H) : PS X e t' := ⟨fun pins s σ H D I q => h.run pins s σ H D I (i D σ H q)⟩
theorem pssOf {X : Cx} {e : List Stmt} {t t' : TS} (h : PSs X e t) (i : ∀ D σ H, t' D σ H → t D σ H) : PSs X e t' := ⟨fun pins s σ H D I q => h.run pins s σ H D I (i D σ H q)⟩
theorem paOf {X : Cx} {e : List Expr} {t t' : TA} (h : PA X e t) (i : ∀ σ H Q, t' σ H Q → t σ H Q) : PA X e t' := ⟨fun p pins s σ H Q I q => h.run p pins s σ H Q I (i σ H Q q)⟩

def MoE (t : ET) : Prop := ∀ ρ p p', (∀ o ρ', p o ρ' → p' o ρ') → t ρ p → t ρ p'
def MoT (t : ETT) : Prop := ∀ ρ p p', (∀ o ρ', p o ρ' → p' o ρ') → t ρ p → t ρ p'
def MoA (t : ETA) : Prop := ∀ ρ p p', (∀ o ρ', p o ρ' → p' o ρ') → t ρ p → t ρ p'
/-- THE JUDGEMENTS -/
structure DE (X : Cx) (B : BI) (e : Expr) (t : ET) : Prop where
  pe : PE X e (bE B t)
  mo : MoE t
structure DT (X : Cx) (B : BI) (e : Expr) (t : ETT) : Prop where
  pt : PT X e (bT B t)
  mo : MoT t
structure DW (X : Cx) (B : BI) (e : Expr) (t : ETT) : Prop where
  pw : PW X e (bT B t)
  mo : MoT t
structure DA (X : Cx) (B : BI) (es : List Expr) (t : ETA) : Prop where
  pa : PA X es (bA B t)
  mo : MoA t
theorem wD_mono {o : Option D} {p p' : D → Prop} (i : ∀ d, p d → p' d) (h : wD o p) : wD o p' := by
  cases o with
  | none => exact h
  | some d => exact i d h

/-! ### names, constants -/
def eV (i : Nat) : ET := fun ρ p => match ρ[i]? with
  | some (.d x) => p (.v x) ρ
  | some (.own _ _) => p (.s i) ρ
  | _ => False
def eK (d : D) : ET := fun ρ p => p (.v d) ρ
section
variable {X : Cx} {B : BI}
theorem eV_mo (i : Nat) : MoE (eV i) := fun ρ p p' h q => by
  unfold eV at *
  split at q
  · exact h _ _ q
  · exact h _ _ q
  · exact q
theorem eK_mo (d : D) : MoE (eK d) := fun ρ p p' h q => h _ _ q
theorem d_var (i : Nat) {x : Str} {pos : Pos} (hN : X.N[i]? = some x := by rfl) (hv : Vis X.env.scope x := by first | exact Or.inl rfl | exact Or.inr (Or.inl rfl) | exact Or.inr (Or.inr rfl)) (hd : (x == ("__debug__" : Str)) = false := by decide)
    (hcd : (x == ("__classdict__" : Str)) = false := by decide) : DE X B (.Name x pos) (eV i) := ⟨peOf (pe_var hN hv hd hcd) fun σ H Q ⟨S, ρ, r, q⟩ => by
  unfold eV at q
  split at q
  · rename_i x hi
    obtain ⟨v, h1, h2⟩ := r.dat i x hi
    exact ⟨v, h1, q v S H (Kp.refl S H) r h2⟩
  · rename_i f o hi
    obtain ⟨fps, g, _⟩ := r.own
    obtain ⟨v, e1, _⟩ := g i _ _ hi
    exact ⟨v, e1, q v S H (Kp.refl S H) r e1⟩
  · exact q.elim, eV_mo i⟩
theorem d_int {i j pos} : DE X B (.Constant (.int i) j pos) (eK (.int i)) := ⟨peOf pe_int fun σ H Q ⟨S, ρ, r, q⟩ => q _ S H (Kp.refl S H) r (R.int i), eK_mo _⟩
theorem d_bl {b j pos} : DE X B (.Constant (.bool b) j pos) (eK (.bool b)) := ⟨peOf pe_bl fun σ H Q ⟨S, ρ, r, q⟩ => q _ S H (Kp.refl S H) r (R.bl b), eK_mo _⟩
theorem d_non {j pos} : DE X B (.Constant .none j pos) (eK .none) := ⟨peOf pe_non fun σ H Q ⟨S, ρ, r, q⟩ => q _ S H (Kp.refl S H) r R.non, eK_mo _⟩
theorem d_str {x j pos} : DE X B (.Constant (.str x) j pos) (eK (.str x)) := ⟨peOf pe_str fun σ H Q ⟨S, ρ, r, q⟩ => q _ S H (Kp.refl S H) r (R.str x), eK_mo _⟩
/-- a constant of the module -/
theorem d_glob {x : Str} {v : V} {d : D} {u : Value} {pos : Pos} (hg : Gl X x) (hm : X.mg x = some u) (rv : RelV v u) (hr : ∀ S H, R B.K S H v d) (hd : (x == ("__debug__" : Str)) = false := by decide) : DE X B (.Name x pos) (eK d) :=
  ⟨peOf (pe_glob hg hm rv hd) fun σ H Q ⟨S, ρ, r, q⟩ => q _ S H (Kp.refl S H) r (hr S H), eK_mo _⟩
end

/-! ### two operands -/
/-- what an operation on data asks and gives -/
abbrev W1 := D → (D → Prop) → Prop
abbrev W2 := D → D → (D → Prop) → Prop
def Mo1 (w : W1) : Prop := ∀ d p p', (∀ x, p x → p' x) → w d p → w d p'
def Mo2 (w : W2) : Prop := ∀ d e p p', (∀ x, p x → p' x) → w d e p → w d e p'
/-- the reading r of an operation on values serves w -/
def Sv1 (K : PySem.W.Frag) (r : V → Hp → VK → Prop) (w : W1) : Prop := ∀ (S : List Addr) (H : Hp) (x : V) (d : D) (Q : VK), (∀ a ∈ S, ∃ o, H a = some o) → RB K S H x d →
  w d (fun z => ∀ v H', Same H H' → R K S H' v z → Q v H') → r x H Q
def Sv2 (K : PySem.W.Frag) (r : R2) (w : W2) : Prop := ∀ (S : List Addr) (H : Hp) (x y : V) (d e : D) (Q : VK), (∀ a ∈ S, ∃ o, H a = some o) → RB K S H x d → RB K S H y e →
  w d e (fun z => ∀ v H', Same H H' → R K S H' v z → Q v H') → r x y H Q
def e1 (w : W1) (ta : ET) : ET := fun ρ p => ta ρ fun o ρ1 => wD (o.get ρ1) fun d => w d fun z => p (.v z) ρ1
def e2 (w : W2) (ta tb : ET) : ET := fun ρ p => ta ρ fun o ρ1 => tb ρ1 fun o' ρ2 => wD (o.get ρ2) fun d => wD (o'.get ρ2) fun d' => w d d' fun z => p (.v z) ρ2
theorem e1_mo {w : W1} {ta : ET} (mw : Mo1 w) (ma : MoE ta) : MoE (e1 w ta) := fun ρ p p' h q => ma _ _ _ (fun o ρ1 q => wD_mono (fun d q => mw d _ _ (fun z q => h _ _ q) q) q) q
theorem e2_mo {w : W2} {ta tb : ET} (mw : Mo2 w) (ma : MoE ta) (mb : MoE tb) : MoE (e2 w ta tb) := fun ρ p p' h q =>
  ma _ _ _ (fun o ρ1 q => mb _ _ _ (fun o' ρ2 q => wD_mono (fun d q => wD_mono (fun d' q => mw d d' _ _ (fun z q => h _ _ q) q) q) q) q) q
theorem wD_inv {o : Option D} {p : D → Prop} (h : wD o p) : ∃ d, o = some d ∧ p d := by
  cases o with
  | none => exact h.elim
  | some d => exact ⟨d, rfl, h⟩
section
variable {X : Cx} {B : BI} {a b c : Expr} {ta tb tc : ET} {pos : Pos}
theorem un_of {r : V → Hp → VK → Prop} {w : W1} (mw : Mo1 w) (sv : Sv1 B.K r w) (ha : DE X B a ta) {σ : L2.St} {H : Hp} {Q : VK} (h : bE B (e1 w ta) σ H Q) : tUn r (bE B ta) σ H Q := by
  obtain ⟨S, ρ, g, q⟩ := h
  refine ⟨S, ρ, g, ha.mo _ _ _ (fun o ρ1 q x S1 H1 k1 g1 h1 => ?_) q⟩
  obtain ⟨d, ed, q⟩ := wD_inv q
  refine sv S1 H1 x d Q g1.trk (h1.get g1 ed) (mw _ _ _ (fun z q v H' s rv => ?_) q)
  exact q v S1 H' (k1.trans (Kp.same s)) (g1.same s) rv
theorem bin_of {r : R2} {w : W2} (mw : Mo2 w) (sv : Sv2 B.K r w) (ha : DE X B a ta) (hb : DE X B b tb) {σ : L2.St} {H : Hp} {Q : VK} (h : bE B (e2 w ta tb) σ H Q) : tOp r (bE B ta) (bE B tb) σ H Q := by
  obtain ⟨S, ρ, g, q⟩ := h
  refine ⟨S, ρ, g, ha.mo _ _ _ (fun o1 ρ1 q x S1 H1 k1 g1 h1 => ⟨S1, ρ1, g1, hb.mo _ _ _ (fun o2 ρ2 q y S2 H2 k2 g2 h2 => ?_) q⟩) q⟩
  obtain ⟨d, ed, q⟩ := wD_inv q
  obtain ⟨e, ee, q⟩ := wD_inv q
  refine sv S2 H2 x y d e Q g2.trk ((h1.kp k2).get g2 ed) (h2.get g2 ee) (mw _ _ _ _ (fun z q v H' s rv => ?_) q)
  exact q v S2 H' ((k1.trans k2).trans (Kp.same s)) (g2.same s) rv
theorem d_op {op : Operator} {r : R2} {w : W2} (ho : OpR X (binaryOp op) r) (mw : Mo2 w) (sv : Sv2 B.K r w) (ha : DE X B a ta) (hb : DE X B b tb) : DE X B (.BinOp a op b pos) (e2 w ta tb) :=
  ⟨peOf (pe_op ho ha.pe hb.pe) fun _ _ _ q => bin_of mw sv ha hb q, e2_mo mw ha.mo hb.mo⟩
theorem d_un {op : UnaryOp} {r : V → Hp → VK → Prop} {w : W1} (ho : UnR X (unaryOp op) r) (mw : Mo1 w) (sv : Sv1 B.K r w) (ha : DE X B a ta) : DE X B (.UnaryOp op a pos) (e1 w ta) :=
  ⟨peOf (pe_un ho ha.pe) fun _ _ _ q => un_of mw sv ha q, e1_mo mw ha.mo⟩
theorem d_cmp {op : CmpOp} {r : R2} {w : W2} (ho : OpR X (compareOp op) r) (mw : Mo2 w) (sv : Sv2 B.K r w) (ha : DE X B a ta) (hb : DE X B b tb) (hm : behindInMarks op b = false) : DE X B (.Compare a [op] [b] pos) (e2 w ta tb) :=
  ⟨peOf (pe_cmpR ho ha.pe hb.pe hm) fun _ _ _ q => bin_of mw sv ha hb q, e2_mo mw ha.mo hb.mo⟩
theorem d_ix {r : R2} {w : W2} (hr : IxR X r) (mw : Mo2 w) (sv : Sv2 B.K r w) (ha : DE X B a ta) (hb : DE X B b tb) (hs : PlainIx b) : DE X B (.Subscript a b pos) (e2 w ta tb) :=
  ⟨peOf (pe_ix hr ha.pe hb.pe hs) fun _ _ _ q => bin_of mw sv ha hb q, e2_mo mw ha.mo hb.mo⟩

/-! ### tests -/
def wBo (o : Op) (p : Bool → Prop) : Prop := match o with
  | .v (.bool b) => p b
  | _ => False
theorem wBo_mono {o : Op} {p p' : Bool → Prop} (i : ∀ b, p b → p' b) (h : wBo o p) : wBo o p' := by
  unfold wBo at *; split at h
  · exact i _ h
  · exact h
/-- the truth of a True, a False -/
def tB' (ta : ET) : ETT := fun ρ p => ta ρ fun o ρ1 => wBo o fun b => p b ρ1
theorem tB'_mo {ta : ET} (ma : MoE ta) : MoT (tB' ta) := fun ρ p p' h q => ma _ _ _ (fun o ρ1 q => wBo_mono (fun b q => h _ _ q) q) q
theorem tb_of {Q : Bool → Hp → Prop} {σ : L2.St} {H : Hp} (ma : MoE ta) (h : bT B (tB' ta) σ H Q) : bE B ta σ H fun x H' => ∃ k, x = .bl k ∧ Q k H' := by
  obtain ⟨S, ρ, g, q⟩ := h
  refine ⟨S, ρ, g, ma _ _ _ (fun o ρ1 q x S1 H1 k1 g1 h1 => ?_) q⟩
  unfold wBo at q
  split at q
  · rename_i b
    cases (show R B.K S1 H1 x (.bool b) from h1)
    exact ⟨b, rfl, q S1 H1 k1 g1⟩
  · exact q.elim
theorem d_tcmp {op : CmpOp} {r : R2} {w : W2} (ho : OpR X (compareOp op) r) (mw : Mo2 w) (sv : Sv2 B.K r w) (ha : DE X B a ta) (hb : DE X B b tb) (hm : behindInMarks op b = false) : DT X B (.Compare a [op] [b] pos) (tB' (e2 w ta tb)) :=
  ⟨ptOf (pt_cmpR ho ha.pe hb.pe hm) fun σ H Q q => bin_of mw sv ha hb (tb_of (e2_mo mw ha.mo hb.mo) q), tB'_mo (e2_mo mw ha.mo hb.mo)⟩
/-- an expression that gives True or False, as a test -/
theorem d_tval (ha : DE X B a ta) (he : ∀ whole, isTrue a X.env whole = (do let v ← whole; standAt a.pos; holding [v] (truthy v)) := by intro _; rfl) : DT X B a (tB' ta) :=
  ⟨ptOf (pt_val ha.pe he) fun σ H Q q => tb_of ha.mo q, tB'_mo ha.mo⟩
/-- the truth of any data -/
def wTru : D → (Bool → Prop) → Prop
  | .none, p => p false
  | .bool b, p => p b
  | .int i, p => p (i != 0)
  | .str x, p => x.length ≤ sizeLine ∧ p ((x.length : Int) != 0)
  | .list xs, p => p !xs.isEmpty
  | .tuple xs, p => p !xs.isEmpty
  | _, _ => False
theorem wTru_mono {d : D} {p p' : Bool → Prop} (i : ∀ b, p b → p' b) (h : wTru d p) : wTru d p' := by
  unfold wTru at *; split at h <;> first | exact i _ h | exact ⟨h.1, i _ h.2⟩ | exact h
theorem RA.isEmpty {K : PySem.W.Frag} {S : List Addr} {H : Hp} {xs : List V} {ds : List D} (r : RA K S H xs ds) : ds.isEmpty = xs.isEmpty := by cases r <;> rfl
theorem tru_of {K : PySem.W.Frag} {S : List Addr} {H : Hp} {x : V} {d : D} {p : Bool → Prop} (r : RB K S H x d) (h : wTru d p) : ∃ k, TruV K x H k ∧ p k := by
  cases r with
  | non => exact ⟨_, rfl, h⟩
  | bl b => exact ⟨_, rfl, h⟩
  | int b => exact ⟨_, rfl, h⟩
  | str b => exact ⟨_, ⟨h.1, rfl⟩, h.2⟩
  | lst g q _ => exact ⟨_, .inl ⟨_, g.sq, rfl⟩, by rw [← q.isEmpty]; exact h⟩
  | tup g q _ => exact ⟨_, .inr (.inl ⟨_, tq g, rfl⟩), by rw [← q.isEmpty]; exact h⟩
  | dik g q => exact h.elim
  | dit g q => exact h.elim
def tTru (ta : ET) : ETT := fun ρ p => ta ρ fun o ρ1 => wD (o.get ρ1) fun d => wTru d fun b => p b ρ1
theorem tTru_mo {ta : ET} (ma : MoE ta) : MoT (tTru ta) := fun ρ p p' h q => ma _ _ _ (fun o ρ1 q => wD_mono (fun d q => wTru_mono (fun b q => h _ _ q) q) q) q
theorem d_tru (hK : X.K = B.K) (ha : DE X B a ta) (he : ∀ whole, isTrue a X.env whole = (do let v ← whole; standAt a.pos; holding [v] (truthy v)) := by intro _; rfl) : DT X B a (tTru ta) :=
  ⟨ptOf (pt_truth ha.pe he) fun σ H Q ⟨S, ρ, g, q⟩ => ⟨S, ρ, g, ha.mo _ _ _ (fun o ρ1 q x S1 H1 k1 g1 h1 => by
    obtain ⟨d, ed, q⟩ := wD_inv q
    obtain ⟨k, e, q⟩ := tru_of (h1.get g1 ed) q
    rw [hK]
    exact ⟨k, e, q S1 H1 k1 g1⟩) q⟩, tTru_mo ha.mo⟩
/-! and, or, not -/
def tAnd' (s t : ETT) : ETT := fun ρ p => s ρ fun b ρ1 => if b = true then t ρ1 p else p false ρ1
def tOr' (s t : ETT) : ETT := fun ρ p => s ρ fun b ρ1 => if b = true then p true ρ1 else t ρ1 p
def tNot' (s : ETT) : ETT := fun ρ p => s ρ fun b ρ1 => p (!b) ρ1
theorem ite_mono {c A A' C C' : Prop} [Decidable c] (h1 : A → A') (h2 : C → C') (h : if c then A else C) : if c then A' else C' := by
  split at h
  · rename_i e; rw [if_pos e]; exact h1 h
  · rename_i e; rw [if_neg e]; exact h2 h
theorem tAnd'_mo {s t : ETT} (ms : MoT s) (mt : MoT t) : MoT (tAnd' s t) := fun ρ p p' h q => ms _ _ _ (fun b ρ1 q => ite_mono (mt _ _ _ h) (h _ _) q) q
theorem tOr'_mo {s t : ETT} (ms : MoT s) (mt : MoT t) : MoT (tOr' s t) := fun ρ p p' h q => ms _ _ _ (fun b ρ1 q => ite_mono (h _ _) (mt _ _ _ h) q) q
theorem tNot'_mo {s : ETT} (ms : MoT s) : MoT (tNot' s) := fun ρ p p' h q => ms _ _ _ (fun b ρ1 q => h _ _ q) q
section
variable {s t : ETT} {rest : List Expr}
theorem dw_pt (h : DW X B a s) : DT X B a s := ⟨h.pw.pt, h.mo⟩
theorem dw_and1 (ha : DT X B a s) : DW X B (.BoolOp .And [a] pos) s := ⟨pw_and1 ha.pt, ha.mo⟩
theorem dw_or1 (ha : DT X B a s) : DW X B (.BoolOp .Or [a] pos) s := ⟨pw_or1 ha.pt, ha.mo⟩
theorem dw_and (ha : DT X B a s) (hb : DW X B (.BoolOp .And (b :: rest) pos) t) : DW X B (.BoolOp .And (a :: b :: rest) pos) (tAnd' s t) :=
  ⟨pwOf (pw_and ha.pt hb.pw) fun σ H Q ⟨S, ρ, g, q⟩ => ⟨S, ρ, g, ha.mo _ _ _ (fun o ρ1 q S1 H1 k1 g1 => ite_mono (fun q => ⟨S1, ρ1, g1, hb.mo _ _ _ (fun o ρ2 q S2 H2 k2 g2 => q S2 H2 (k1.trans k2) g2) q⟩) (fun q => q S1 H1 k1 g1) q) q⟩, tAnd'_mo ha.mo hb.mo⟩
theorem dw_or (ha : DT X B a s) (hb : DW X B (.BoolOp .Or (b :: rest) pos) t) : DW X B (.BoolOp .Or (a :: b :: rest) pos) (tOr' s t) :=
  ⟨pwOf (pw_or ha.pt hb.pw) fun σ H Q ⟨S, ρ, g, q⟩ => ⟨S, ρ, g, ha.mo _ _ _ (fun o ρ1 q S1 H1 k1 g1 => ite_mono (fun q => q S1 H1 k1 g1) (fun q => ⟨S1, ρ1, g1, hb.mo _ _ _ (fun o ρ2 q S2 H2 k2 g2 => q S2 H2 (k1.trans k2) g2) q⟩) q) q⟩, tOr'_mo ha.mo hb.mo⟩
theorem dt_not (ha : DT X B a s) : DT X B (.UnaryOp .Not a pos) (tNot' s) :=
  ⟨ptOf (pt_not ha.pt) fun σ H Q ⟨S, ρ, g, q⟩ => ⟨S, ρ, g, ha.mo _ _ _ (fun o ρ1 q S1 H1 k1 g1 => q S1 H1 k1 g1) q⟩, tNot'_mo ha.mo⟩
end
/-- a test's value (or, and, not of truths), as a value -/
def eOr (ta tb : ET) : ET := fun ρ p => ta ρ fun o ρ1 => wD (o.get ρ1) fun d => wTru d fun k => if k = true then p o ρ1 else tb ρ1 p
def eAnd (ta tb : ET) : ET := fun ρ p => ta ρ fun o ρ1 => wD (o.get ρ1) fun d => wTru d fun k => if k = true then tb ρ1 p else p o ρ1
def eNot (ta : ET) : ET := fun ρ p => ta ρ fun o ρ1 => wD (o.get ρ1) fun d => wTru d fun k => p (.v (.bool !k)) ρ1
theorem eOr_mo (ma : MoE ta) (mb : MoE tb) : MoE (eOr ta tb) := fun ρ p p' h q => ma _ _ _ (fun o ρ1 q => wD_mono (fun d q => wTru_mono (fun k q => ite_mono (h _ _) (mb _ _ _ h) q) q) q) q
theorem eAnd_mo (ma : MoE ta) (mb : MoE tb) : MoE (eAnd ta tb) := fun ρ p p' h q => ma _ _ _ (fun o ρ1 q => wD_mono (fun d q => wTru_mono (fun k q => ite_mono (mb _ _ _ h) (h _ _) q) q) q) q
theorem eNot_mo (ma : MoE ta) : MoE (eNot ta) := fun ρ p p' h q => ma _ _ _ (fun o ρ1 q => wD_mono (fun d q => wTru_mono (fun k q => h _ _ q) q) q) q
section
variable {rest : List Expr}
theorem d_one {op} (h : DE X B a ta) : DE X B (.BoolOp op [a] pos) ta := ⟨pe_one h.pe, h.mo⟩
theorem d_or (hK : X.K = B.K) (ha : DE X B a ta) (hb : DE X B (.BoolOp .Or (b :: rest) pos) tb) : DE X B (.BoolOp .Or (a :: b :: rest) pos) (eOr ta tb) :=
  ⟨peOf (pe_orT ha.pe hb.pe) fun σ H Q ⟨S, ρ, g, q⟩ => ⟨S, ρ, g, ha.mo _ _ _ (fun o ρ1 q x S1 H1 k1 g1 h1 => by
    obtain ⟨d, ed, q⟩ := wD_inv q
    obtain ⟨k, e, q⟩ := tru_of (h1.get g1 ed) q
    rw [hK]
    exact ⟨k, e, ite_mono (fun q => q x S1 H1 k1 g1 h1) (fun q => ⟨S1, ρ1, g1, hb.mo _ _ _ (fun o ρ2 q y S2 H2 k2 g2 h2 => q y S2 H2 (k1.trans k2) g2 h2) q⟩) q⟩) q⟩, eOr_mo ha.mo hb.mo⟩
theorem d_and (hK : X.K = B.K) (ha : DE X B a ta) (hb : DE X B (.BoolOp .And (b :: rest) pos) tb) : DE X B (.BoolOp .And (a :: b :: rest) pos) (eAnd ta tb) :=
  ⟨peOf (pe_andT ha.pe hb.pe) fun σ H Q ⟨S, ρ, g, q⟩ => ⟨S, ρ, g, ha.mo _ _ _ (fun o ρ1 q x S1 H1 k1 g1 h1 => by
    obtain ⟨d, ed, q⟩ := wD_inv q
    obtain ⟨k, e, q⟩ := tru_of (h1.get g1 ed) q
    rw [hK]
    exact ⟨k, e, ite_mono (fun q => ⟨S1, ρ1, g1, hb.mo _ _ _ (fun o ρ2 q y S2 H2 k2 g2 h2 => q y S2 H2 (k1.trans k2) g2 h2) q⟩) (fun q => q x S1 H1 k1 g1 h1) q⟩) q⟩, eAnd_mo ha.mo hb.mo⟩
theorem d_not (hK : X.K = B.K) (ha : DE X B a ta) : DE X B (.UnaryOp .Not a pos) (eNot ta) :=
  ⟨peOf (pe_notT ha.pe) fun σ H Q ⟨S, ρ, g, q⟩ => ⟨S, ρ, g, ha.mo _ _ _ (fun o ρ1 q x S1 H1 k1 g1 h1 => by
    obtain ⟨d, ed, q⟩ := wD_inv q
    obtain ⟨k, e, q⟩ := tru_of (h1.get g1 ed) q
    rw [hK]
    exact ⟨k, e, q _ S1 H1 k1 g1 (R.bl _)⟩) q⟩, eNot_mo ha.mo⟩
end
def eIf (s : ETT) (ta tb : ET) : ET := fun ρ p => s ρ fun k ρ1 => if k = true then ta ρ1 p else tb ρ1 p
theorem eIf_mo {s : ETT} (ms : MoT s) (ma : MoE ta) (mb : MoE tb) : MoE (eIf s ta tb) := fun ρ p p' h q => ms _ _ _ (fun k ρ1 q => ite_mono (ma _ _ _ h) (mb _ _ _ h) q) q
theorem d_if {s : ETT} (hc : DT X B c s) (ha : DE X B a ta) (hb : DE X B b tb) : DE X B (.IfExp c a b pos) (eIf s ta tb) :=
  ⟨peOf (pe_ifExp hc.pt ha.pe hb.pe) fun σ H Q ⟨S, ρ, g, q⟩ => ⟨S, ρ, g, hc.mo _ _ _ (fun k ρ1 q S1 H1 k1 g1 =>
    ite_mono (fun q => ⟨S1, ρ1, g1, ha.mo _ _ _ (fun o ρ2 q y S2 H2 k2 g2 h2 => q y S2 H2 (k1.trans k2) g2 h2) q⟩) (fun q => ⟨S1, ρ1, g1, hb.mo _ _ _ (fun o ρ2 q y S2 H2 k2 g2 h2 => q y S2 H2 (k1.trans k2) g2 h2) q⟩) q) q⟩, eIf_mo hc.mo ha.mo hb.mo⟩
/-- a < b < c -/
def eCh (w w' : W2) (ta tb tc : ET) : ET := fun ρ p => ta ρ fun o ρ1 => tb ρ1 fun o' ρ2 => wD (o.get ρ2) fun d => wD (o'.get ρ2) fun d' => w d d' fun z => wBo (.v z) fun k =>
  if k = true then tc ρ2 fun o'' ρ3 => wD (o'.get ρ3) fun d1 => wD (o''.get ρ3) fun d2 => w' d1 d2 fun z => p (.v z) ρ3 else p (.v (.bool false)) ρ2
theorem eCh_mo {w w' : W2} (mw : Mo2 w) (mw' : Mo2 w') (ma : MoE ta) (mb : MoE tb) (mc : MoE tc) : MoE (eCh w w' ta tb tc) := fun ρ p p' h q =>
  ma _ _ _ (fun o ρ1 q => mb _ _ _ (fun o' ρ2 q => wD_mono (fun d q => wD_mono (fun d' q => mw d d' _ _ (fun z q => wBo_mono (fun k q => ite_mono (mc _ _ _ fun o'' ρ3 q => wD_mono (fun d1 q => wD_mono (fun d2 q => mw' _ _ _ _ (fun z q => h _ _ q) q) q) q) (h _ _) q) q) q) q) q) q) q
theorem ch_of {r r' : R2} {w w' : W2} (mw : Mo2 w) (mw' : Mo2 w') (sv : Sv2 B.K r w) (sv' : Sv2 B.K r' w') (ha : DE X B a ta) (hb : DE X B b tb) (hc : DE X B c tc) {σ : L2.St} {H : Hp} {Q : VK}
    (h : bE B (eCh w w' ta tb tc) σ H Q) : tChain r r' (bE B ta) (bE B tb) (bE B tc) σ H Q := by
  obtain ⟨S, ρ, g, q⟩ := h
  refine ⟨S, ρ, g, ha.mo _ _ _ (fun o1 ρ1 q x S1 H1 k1 g1 h1 => ⟨S1, ρ1, g1, hb.mo _ _ _ (fun o2 ρ2 q y S2 H2 k2 g2 h2 => ?_) q⟩) q⟩
  obtain ⟨d, ed, q⟩ := wD_inv q
  obtain ⟨e, ee, q⟩ := wD_inv q
  refine sv S2 H2 x y d e _ g2.trk ((h1.kp k2).get g2 ed) (h2.get g2 ee) (mw _ _ _ _ (fun z q v H' s rv => ?_) q)
  cases z <;> first | exact q.elim | skip
  rename_i k
  cases rv
  refine ⟨k, rfl, ite_mono (fun q => ?_) (fun q => q _ S2 H' ((k1.trans k2).trans (Kp.same s)) (g2.same s) (R.bl _)) q⟩
  refine ⟨S2, ρ2, g2.same s, hc.mo _ _ _ (fun o3 ρ3 q u S3 H3 k3 g3 h3 => ?_) q⟩
  obtain ⟨d1, ed1, q⟩ := wD_inv q
  obtain ⟨e1, ee1, q⟩ := wD_inv q
  refine sv' S3 H3 y u d1 e1 _ g3.trk (((h2.kp (Kp.same s)).kp k3).get g3 ed1) (h3.get g3 ee1) (mw' _ _ _ _ (fun z q v H'' s' rv => ?_) q)
  exact q v S3 H'' ((((k1.trans k2).trans (Kp.same s)).trans k3).trans (Kp.same s')) (g3.same s') rv
theorem d_chain {op op' : CmpOp} {r r' : R2} {w w' : W2} (ho : OpR X (compareOp op) r) (ho' : OpR X (compareOp op') r') (mw : Mo2 w) (mw' : Mo2 w') (sv : Sv2 B.K r w) (sv' : Sv2 B.K r' w')
    (ha : DE X B a ta) (hb : DE X B b tb) (hc : DE X B c tc) (hm : lastMarks [op, op'] [b, c] = false := by with_unfolding_all rfl) : DE X B (.Compare a [op, op'] [b, c] pos) (eCh w w' ta tb tc) :=
  ⟨peOf (pe_chain ho ho' ha.pe hb.pe hc.pe hm) fun _ _ _ q => ch_of mw mw' sv sv' ha hb hc q, eCh_mo mw mw' ha.mo hb.mo hc.mo⟩
theorem d_tchain {op op' : CmpOp} {r r' : R2} {w w' : W2} (ho : OpR X (compareOp op) r) (ho' : OpR X (compareOp op') r') (mw : Mo2 w) (mw' : Mo2 w') (sv : Sv2 B.K r w) (sv' : Sv2 B.K r' w')
    (ha : DE X B a ta) (hb : DE X B b tb) (hc : DE X B c tc) (hm : lastMarks [op, op'] [b, c] = false := by with_unfolding_all rfl) : DT X B (.Compare a [op, op'] [b, c] pos) (tB' (eCh w w' ta tb tc)) :=
  ⟨ptOf (pt_chain ho ho' ha.pe hb.pe hc.pe hm) fun σ H Q q => ch_of mw mw' sv sv' ha hb hc (tb_of (eCh_mo mw mw' ha.mo hb.mo hc.mo) q), tB'_mo (eCh_mo mw mw' ha.mo hb.mo hc.mo)⟩
end
end DL

/-! DL3: statements, loops, comprehensions, defs. -/
namespace DL
open PySem PySem.Spec PyProof.Rows L2

/-- what a def hands back: data, or a new owned thing -/
inductive Ret where
  | d (x : D)
  | own (o : O)
structure EndsD where
  nx : Env → Prop
  rt : Ret → Env → Prop
  bk : Env → Prop := fun _ => False
  ct : Env → Prop := fun _ => False
abbrev STy := EndsD → Env → Prop
structure EndsD.le (D D' : EndsD) : Prop where
  nx : ∀ ρ, D.nx ρ → D'.nx ρ
  rt : ∀ r ρ, D.rt r ρ → D'.rt r ρ
  bk : ∀ ρ, D.bk ρ → D'.bk ρ
  ct : ∀ ρ, D.ct ρ → D'.ct ρ
def MoS (t : STy) : Prop := ∀ D D' ρ, EndsD.le D D' → t D ρ → t D' ρ
def RetAt (B : BI) (S : List Addr) (H : Hp) (x : V) : Ret → Prop
  | .d d => R B.K B.SC H x d
  | .own o => ∃ fp, OwnP B.K S H x o fp ∧ (∀ a ∈ fp, a ∈ S) ∧ ∀ a ∈ fp, B.H0 a = none
/-- the ends over data serve the ends over the heap -/
structure Lk (B : BI) (S : List Addr) (H : Hp) (D' : EndsD) (D : L2.Ends) : Prop where
  nx : ∀ ρ S' σ H', Kp S H S' H' → SR B S' σ H' ρ → D'.nx ρ → D.nx σ H'
  rt : ∀ r ρ x S' σ H', Kp S H S' H' → SR B S' σ H' ρ → RetAt B S' H' x r → D'.rt r ρ → D.rt x H'
  bk : ∀ ρ S' σ H', Kp S H S' H' → SR B S' σ H' ρ → D'.bk ρ → D.bk σ H'
  ct : ∀ ρ S' σ H', Kp S H S' H' → SR B S' σ H' ρ → D'.ct ρ → D.ct σ H'
theorem Lk.kp {B : BI} {S S' : List Addr} {H H' : Hp} {D' : EndsD} {D : L2.Ends} (l : Lk B S H D' D) (k : Kp S H S' H') : Lk B S' H' D' D :=
  ⟨fun ρ S2 σ H2 k2 => l.nx ρ S2 σ H2 (k.trans k2), fun r ρ x S2 σ H2 k2 => l.rt r ρ x S2 σ H2 (k.trans k2), fun ρ S2 σ H2 k2 => l.bk ρ S2 σ H2 (k.trans k2), fun ρ S2 σ H2 k2 => l.ct ρ S2 σ H2 (k.trans k2)⟩
def bS (B : BI) (t : STy) : TS := fun D σ H => ∃ S ρ D', SR B S σ H ρ ∧ Lk B S H D' D ∧ t D' ρ
structure DS (X : Cx) (B : BI) (st : Stmt) (t : STy) : Prop where
  ps : PS X st (bS B t)
  mo : MoS t
structure DSs (X : Cx) (B : BI) (st : List Stmt) (t : STy) : Prop where
  pss : PSs X st (bS B t)
  mo : MoS t

/-! ### blocks -/
def sNext : STy := fun D ρ => D.nx ρ
def sSeq (t u : STy) : STy := fun D ρ => t { D with nx := u D } ρ
theorem sNext_mo : MoS sNext := fun D D' ρ l q => l.nx _ q
theorem sSeq_mo {t u : STy} (mt : MoS t) (mu : MoS u) : MoS (sSeq t u) := fun D D' ρ l q => mt { D with nx := u D } { D' with nx := u D' } ρ ⟨fun ρ1 q => mu D D' ρ1 l q, l.rt, l.bk, l.ct⟩ q
section
variable {X : Cx} {B : BI} {st : Stmt} {sts rest : List Stmt} {t u : STy} {e a b c : Expr} {te ta tb : ET} {s : ETT} {pos : Pos}
theorem dss_nil : DSs X B [] sNext := ⟨pssOf pss_nil fun D σ H ⟨S, ρ, D', g, l, q⟩ => l.nx ρ S σ H (Kp.refl _ _) g q, sNext_mo⟩
theorem dss_cons (h1 : DS X B st t) (h2 : DSs X B rest u) : DSs X B (st :: rest) (sSeq t u) :=
  ⟨pssOf (pss_cons h1.ps h2.pss) fun D σ H ⟨S, ρ, D', g, l, q⟩ => ⟨S, ρ, { D' with nx := u D' }, g,
    ⟨fun ρ1 S1 σ1 H1 k1 g1 q1 => ⟨S1, ρ1, D', g1, l.kp k1, q1⟩, l.rt, l.bk, l.ct⟩, q⟩, sSeq_mo h1.mo h2.mo⟩
theorem dss_one (h1 : DS X B st t) : DSs X B [st] t := ⟨pss_one h1.ps, h1.mo⟩
def sBreak : STy := fun D ρ => D.bk ρ
def sCont : STy := fun D ρ => D.ct ρ
theorem ds_pass : DS X B (.Pass pos) sNext := ⟨psOf ps_pass fun D σ H ⟨S, ρ, D', g, l, q⟩ => l.nx ρ S σ H (Kp.refl _ _) g q, sNext_mo⟩
theorem ds_break : DS X B (.Break pos) sBreak := ⟨psOf ps_break fun D σ H ⟨S, ρ, D', g, l, q⟩ => l.bk ρ S σ H (Kp.refl _ _) g q, fun D D' ρ l q => l.bk _ q⟩
theorem ds_continue : DS X B (.Continue pos) sCont := ⟨psOf ps_continue fun D σ H ⟨S, ρ, D', g, l, q⟩ => l.ct ρ S σ H (Kp.refl _ _) g q, fun D D' ρ l q => l.ct _ q⟩
theorem ds_doc {x : Str} {j pos pos'} : DS X B (.Expr (.Constant (.str x) j pos) pos') sNext := ⟨psOf ps_doc fun D σ H ⟨S, ρ, D', g, l, q⟩ => l.nx ρ S σ H (Kp.refl _ _) g q, sNext_mo⟩
def sDrop (te : ET) : STy := fun D ρ => te ρ fun _ ρ1 => D.nx ρ1
theorem sDrop_mo (me : MoE te) : MoS (sDrop te) := fun D D' ρ l q => me _ _ _ (fun o ρ1 q => l.nx _ q) q
theorem ds_expr (he : DE X B e te) (hs : swapsWith e none pos.line X.env = pure false := by rfl) : DS X B (.Expr e pos) (sDrop te) :=
  ⟨psOf (ps_expr he.pe hs) fun D σ H ⟨S, ρ, D', g, l, q⟩ => ⟨S, ρ, g, he.mo _ _ _ (fun o ρ1 q x S1 H1 k1 g1 h1 => l.nx ρ1 S1 σ H1 k1 g1 q) q⟩, sDrop_mo he.mo⟩
/-- an owned thing that is handed back is data from then on -/
def retD (o : Op) (ρ : Env) (p : D → Prop) : Prop := match o with
  | .v d => p d
  | .s i => match ρ[i]? with
    | some (.own true o) => wD o.dat p
    | _ => False
theorem retD_mono {o : Op} {ρ : Env} {p p' : D → Prop} (i : ∀ d, p d → p' d) (h : retD o ρ p) : retD o ρ p' := by
  unfold retD at *
  split at h
  · exact i _ h
  · split at h
    · exact wD_mono i h
    · exact h
theorem retD_at {S : List Addr} {σ : L2.St} {H : Hp} {ρ : Env} {x : V} {o : Op} {p : D → Prop} (g : SR B S σ H ρ) (h : OpAt B S σ H x o) (q : retD o ρ p) : ∃ d, R B.K B.SC H x d ∧ p d := by
  unfold retD at q
  split at q
  · exact ⟨_, R.sub h g.sub, q⟩
  · rename_i i
    split at q
    · rename_i o hi
      obtain ⟨d, ed, q⟩ := wD_inv q
      obtain ⟨fps, h1, _⟩ := g.own
      obtain ⟨v, e1, w, _, g4⟩ := h1 i true o hi
      have h : σ[i]? = some (some x) := h
      rw [h] at e1; cases e1
      refine ⟨d, w.dat ed g.sub fun a ha m => ?_, q⟩
      rcases g4 with ⟨_, g4⟩ | ⟨z, _⟩
      · obtain ⟨u, hu⟩ := g.there a m
        rw [g4 a ha] at hu; cases hu
      · cases z
    · exact q.elim
def sRet (te : ET) : STy := fun D ρ => te ρ fun o ρ1 => retD o ρ1 fun d => D.rt (.d d) ρ1
theorem sRet_mo (me : MoE te) : MoS (sRet te) := fun D D' ρ l q => me _ _ _ (fun o ρ1 q => retD_mono (fun d q => l.rt _ _ q) q) q
theorem ds_ret (he : DE X B e te) : DS X B (.Return (some e) pos) (sRet te) :=
  ⟨psOf (ps_ret he.pe) fun D σ H ⟨S, ρ, D', g, l, q⟩ => ⟨S, ρ, g, he.mo _ _ _ (fun o ρ1 q x S1 H1 k1 g1 h1 => by
    obtain ⟨d, r, q⟩ := retD_at g1 h1 q
    exact l.rt (.d d) ρ1 x S1 σ H1 k1 g1 r q) q⟩, sRet_mo he.mo⟩
/-- return of an owned local, as an owned thing -/
def sRetO (i : Nat) : STy := fun D ρ => match ρ[i]? with
  | some (.own true o) => D.rt (.own o) ρ
  | _ => False
theorem ds_retO (i : Nat) {x : Str} {p : Pos} (hN : X.N[i]? = some x := by rfl) (hv : Vis X.env.scope x := by first | exact Or.inl rfl | exact Or.inr (Or.inl rfl) | exact Or.inr (Or.inr rfl)) (hd : (x == ("__debug__" : Str)) = false := by decide)
    (hcd : (x == ("__classdict__" : Str)) = false := by decide) : DS X B (.Return (some (.Name x p)) pos) (sRetO i) :=
  ⟨psOf (ps_ret (pe_var hN hv hd hcd)) fun D σ H ⟨S, ρ, D', g, l, q⟩ => by
    unfold sRetO at q
    split at q
    · rename_i o hi
      obtain ⟨fps, h1, _⟩ := g.own
      obtain ⟨v, e1, w, g3, g4⟩ := h1 i true o hi
      refine ⟨v, e1, l.rt (.own o) ρ v S σ H (Kp.refl _ _) g ⟨fps i, w, fun a ha => (g3 a ha).1, ?_⟩ q⟩
      rcases g4 with ⟨_, g4⟩ | ⟨z, _⟩
      · exact g4
      · cases z
    · exact q.elim, fun D D' ρ l q => by
    unfold sRetO at *
    split at q
    · exact l.rt _ _ q
    · exact q⟩
def sRetN : STy := fun D ρ => D.rt (.d .none) ρ
theorem ds_retN : DS X B (.Return none pos) sRetN := ⟨psOf ps_retN fun D σ H ⟨S, ρ, D', g, l, q⟩ => l.rt (.d .none) ρ .non S σ H (Kp.refl _ _) g R.non q, fun D D' ρ l q => l.rt _ _ q⟩
def sIf (s : ETT) (t u : STy) : STy := fun D ρ => s ρ fun b ρ1 => if b = true then t D ρ1 else u D ρ1
theorem sIf_mo (ms : MoT s) (mt : MoS t) (mu : MoS u) : MoS (sIf s t u) := fun D D' ρ l q => ms _ _ _ (fun b ρ1 q => ite_mono (mt _ _ _ l) (mu _ _ _ l) q) q
theorem ds_if {p q : List Stmt} (hc : DT X B c s) (ha : DSs X B p t) (hb : DSs X B q u) : DS X B (.If c p q pos) (sIf s t u) :=
  ⟨psOf (ps_if hc.pt ha.pss hb.pss) fun D σ H ⟨S, ρ, D', g, l, q⟩ => ⟨S, ρ, g, hc.mo _ _ _ (fun b ρ1 q S1 H1 k1 g1 =>
    ite_mono (fun q => ⟨S1, ρ1, D', g1, l.kp k1, q⟩) (fun q => ⟨S1, ρ1, D', g1, l.kp k1, q⟩) q) q⟩, sIf_mo hc.mo ha.mo hb.mo⟩
/-- x = e -/
def sSet (i : Nat) (te : ET) : STy := fun D ρ => te ρ fun o ρ1 => match o with
  | .v d => D.nx (ρ1.set i (.d d))
  | .s _ => False
theorem sSet_mo {i : Nat} (me : MoE te) : MoS (sSet i te) := fun D D' ρ l q => me _ _ _ (fun o ρ1 q => by
  cases o with
  | v d => exact l.nx _ q
  | s j => exact q) q
theorem ds_set {i : Nat} {x : Str} {pos' : Pos} (hN : X.N.Nodup) (hi : X.N[i]? = some x) (hx : Loc X.env.scope x) (he : DE X B e te) (hs : swapsWith e (some (.Name x pos')) pos.line X.env = pure false := by rfl)
    (hf : X.fn x = true ∨ X.env.scope.names.lookup x = some .local := by first | exact .inl rfl | exact .inr rfl | assumption) : DS X B (.Assign [.Name x pos'] e pos) (sSet i te) :=
  ⟨psOf (ps_set hN hi hx he.pe hs hf) fun D σ H ⟨S, ρ, D', g, l, q⟩ => ⟨S, ρ, g, he.mo _ _ _ (fun o ρ1 q x S1 H1 k1 g1 h1 => by
    cases o with
    | v d => exact l.nx _ S1 _ H1 k1 (g1.setD i h1) q
    | s j => exact q.elim) q⟩, sSet_mo he.mo⟩
end

/-! ### owned things made -/
abbrev OT := Env → (O → Env → Prop) → Prop
def MoO (t : OT) : Prop := ∀ ρ p p', (∀ o ρ', p o ρ' → p' o ρ') → t ρ p → t ρ p'
def oE (B : BI) (t : OT) : TE := fun σ H Q => ∃ S ρ, SR B S σ H ρ ∧ t ρ fun o ρ' => ∀ x S1 H' fp ct, Kp S H S1 H' → SR { B with fr := pinsOf fp ct ++ B.fr } S1 σ H' ρ' → OwnP B.K S1 H' x o fp → (∀ a ∈ fp, B.H0 a = none) → (∀ p ∈ B.fr, p.1 ∉ fp) → Q x H'
structure DO (X : Cx) (B : BI) (e : Expr) (t : OT) : Prop where
  pe : PE X e (oE B t)
  mo : MoO t
section
variable {X : Cx} {B : BI} {e : Expr} {te : OT} {pos : Pos} {rest : List Stmt} {t : STy}
def sOwn (i : Nat) (te : OT) : STy := fun D ρ => te ρ fun o ρ1 => D.nx (ρ1.set i (.own true o))
theorem ds_own {i : Nat} {x : Str} {pos' : Pos} (hN : X.N.Nodup) (hi : X.N[i]? = some x) (hx : Loc X.env.scope x) (he : DO X B e te) (hs : swapsWith e (some (.Name x pos')) pos.line X.env = pure false := by rfl)
    (hf : X.fn x = true ∨ X.env.scope.names.lookup x = some .local := by first | exact .inl rfl | exact .inr rfl | assumption) : DS X B (.Assign [.Name x pos'] e pos) (sOwn i te) :=
  ⟨psOf (ps_set hN hi hx he.pe hs hf) fun D σ H ⟨S, ρ, D', g, l, q⟩ => ⟨S, ρ, g, he.mo _ _ _ (fun o ρ1 q x S1 H1 fp ct k1 g1 w h0 hd =>
    l.nx _ S1 _ H1 k1 (g1.setP w h0 hd) q) q⟩, fun D D' ρ l q => he.mo _ _ _ (fun o ρ1 q => l.nx _ q) q⟩
/-- from here on the owned thing of slot i is data -/
def sFreeze (i : Nat) (t : STy) : STy := fun D ρ => match ρ[i]? with
  | some (.own true o) => wD o.dat fun d => t D (ρ.set i (.d d))
  | _ => False
theorem dss_freeze (i : Nat) (h : DSs X B rest t) : DSs X B rest (sFreeze i t) :=
  ⟨pssOf h.pss fun D σ H ⟨S, ρ, D', g, l, q⟩ => by
    unfold sFreeze at q
    split at q
    · rename_i o hi
      obtain ⟨d, ed, q⟩ := wD_inv q
      obtain ⟨S', k, g'⟩ := g.freeze hi ed
      exact ⟨S', _, D', g', l.kp k, q⟩
    · exact q.elim, fun D D' ρ l q => by
    unfold sFreeze at *
    split at q
    · exact wD_mono (fun d q => h.mo _ _ _ l q) q
    · exact q⟩
end

/-! ### targets -/
/-- a, b, .. = a tuple or a list of that length -/
def gTL (K : PySem.W.Frag) (n : Nat) (t : TGs) : TG := fun v σ H Q => gTup K n t v σ H Q ∨ gLst K n t v σ H Q
theorem pg_tl {X : Cx} {pos : Pos} {es : List Expr} {k : Nat} {t : TGs} {n : Nat} (hc : X.calm = true) (h : PGs X es t)
    (hn : (assignEach es X.env).length = n := by rfl) (hst : (assignEach es X.env).findIdx? (·.1) = none := by rfl) : PG X (.Tuple es k pos) (gTL X.K n t) :=
  ⟨fun pins s σ H v u Q I r hw => hw.elim (fun hw => (pg_tup hc h hn hst).run pins s σ H v u Q I r hw) fun hw => (pg_lst hc h hn hst).run pins s σ H v u Q I r hw⟩
inductive Pat where
  | nm (i : Nat)
  | tup (ps : List Pat)
mutual
def Pat.bind : Pat → D → Env → Option Env
  | .nm i, d, ρ => some (ρ.set i (.d d))
  | .tup ps, .tuple ds, ρ => Pat.binds ps ds ρ
  | .tup ps, .list ds, ρ => Pat.binds ps ds ρ
  | .tup _, _, _ => none
def Pat.binds : List Pat → List D → Env → Option Env
  | [], [], ρ => some ρ
  | p :: ps, d :: ds, ρ => (p.bind d ρ).bind fun ρ1 => Pat.binds ps ds ρ1
  | _, _, _ => none
def Pat.slots : Pat → List Nat
  | .nm i => [i]
  | .tup ps => Pat.slotss ps
def Pat.slotss : List Pat → List Nat
  | [] => []
  | p :: ps => p.slots ++ Pat.slotss ps
def Pat.tg (K : PySem.W.Frag) : Pat → TG
  | .nm i => gName i
  | .tup ps => gTL K ps.length (Pat.tgs K ps)
def Pat.tgs (K : PySem.W.Frag) : List Pat → TGs
  | [] => gNil
  | p :: ps => gCons (p.tg K) (Pat.tgs K ps)
end
def bindW (p : Pat) (d : D) (ρ : Env) (q : Env → Prop) : Prop := match p.bind d ρ with
  | some ρ1 => q ρ1
  | none => False
theorem bindW_mono {p : Pat} {d : D} {ρ : Env} {q q' : Env → Prop} (i : ∀ ρ, q ρ → q' ρ) (h : bindW p d ρ q) : bindW p d ρ q' := by
  unfold bindW at *
  split at h
  · exact i _ h
  · exact h
theorem Pat.binds_len : ∀ {ps : List Pat} {ds : List D} {ρ ρ' : Env}, Pat.binds ps ds ρ = some ρ' → ds.length = ps.length
  | [], [], _, _, _ => rfl
  | p :: ps, d :: ds, ρ, ρ', h => by
    unfold Pat.binds at h
    cases e : p.bind d ρ with
    | none => rw [e] at h; cases h
    | some ρ1 =>
      rw [e] at h
      have := Pat.binds_len (ps := ps) (ds := ds) (ρ := ρ1) (ρ' := ρ') h
      simp [this]
  | [], _ :: _, _, _, h => by unfold Pat.binds at h; cases h
  | _ :: _, [], _, _, h => by unfold Pat.binds at h; cases h
mutual
theorem Pat.serve {B : BI} {S : List Addr} {H : Hp} : ∀ (p : Pat) (d : D) (v : V) (ρ ρ' : Env) (σ : L2.St) (Q : L2.St → Hp → Prop), SR B S σ H ρ → R B.K S H v d → p.bind d ρ = some ρ' →
    (∀ σ', SR B S σ' H ρ' → σ'.length = σ.length → (∀ j, j ∉ p.slots → σ'[j]? = σ[j]?) → Q σ' H) → p.tg B.K v σ H Q
  | .nm i, d, v, ρ, ρ', σ, Q, g, r, h, q => by
    unfold Pat.bind at h
    cases h
    refine q _ (g.setD i r) (by rw [List.length_set]) fun j hj => ?_
    have : i ≠ j := fun e => hj (by rw [e]; simp [Pat.slots])
    rw [List.getElem?_set, if_neg this]
  | .tup ps, d, v, ρ, ρ', σ, Q, g, r, h, q => by
    cases d with
    | tuple ds =>
      unfold Pat.bind at h
      cases r with
      | tup hq ra _ =>
        refine .inl ⟨_, _, rfl, tq hq, ?_, Pat.serves ps ds _ ρ ρ' σ Q g ra h fun σ' g' hl hj => q σ' g' hl fun j hn => hj j (by unfold Pat.slots at hn; exact hn)⟩
        rw [ra.length, Pat.binds_len h]
    | list ds =>
      unfold Pat.bind at h
      cases r with
      | lst hq ra _ =>
        refine .inr ⟨_, _, rfl, LX.sq (hq.imp (·.2) id), ?_, Pat.serves ps ds _ ρ ρ' σ Q g ra h fun σ' g' hl hj => q σ' g' hl fun j hn => hj j (by unfold Pat.slots at hn; exact hn)⟩
        rw [ra.length, Pat.binds_len h]
    | _ => unfold Pat.bind at h; cases h
theorem Pat.serves {B : BI} {S : List Addr} {H : Hp} : ∀ (ps : List Pat) (ds : List D) (vs : List V) (ρ ρ' : Env) (σ : L2.St) (Q : L2.St → Hp → Prop), SR B S σ H ρ → RA B.K S H vs ds → Pat.binds ps ds ρ = some ρ' →
    (∀ σ', SR B S σ' H ρ' → σ'.length = σ.length → (∀ j, j ∉ Pat.slotss ps → σ'[j]? = σ[j]?) → Q σ' H) → Pat.tgs B.K ps vs σ H Q
  | [], [], vs, ρ, ρ', σ, Q, g, ra, h, q => by
    cases ra
    unfold Pat.binds at h
    cases h
    exact ⟨rfl, q σ g rfl fun _ _ => rfl⟩
  | p :: ps, d :: ds, vs, ρ, ρ', σ, Q, g, ra, h, q => by
    unfold Pat.binds at h
    cases e : p.bind d ρ with
    | none => rw [e] at h; cases h
    | some ρ1 =>
      rw [e] at h
      cases ra with
      | cons r rs =>
        refine ⟨_, _, rfl, Pat.serve p d _ ρ ρ1 σ _ g r e fun σ1 g1 l1 h1 => Pat.serves ps ds _ ρ1 ρ' σ1 Q g1 rs h fun σ2 g2 l2 h2 => q σ2 g2 (l2.trans l1) fun j hn => ?_⟩
        unfold Pat.slotss at hn
        rw [h2 j fun m => hn (List.mem_append_right _ m), h1 j fun m => hn (List.mem_append_left _ m)]
  | [], _ :: _, _, _, _, _, _, _, _, h, _ => by unfold Pat.binds at h; cases h
  | _ :: _, [], _, _, _, _, _, _, _, h, _ => by unfold Pat.binds at h; cases h
end
/-- a, b = e -/
def sAsg (p : Pat) (te : ET) : STy := fun D ρ => te ρ fun o ρ1 => match o with
  | .v d => bindW p d ρ1 D.nx
  | .s _ => False
section
variable {X : Cx} {B : BI} {e tg : Expr} {te : ET} {pos : Pos} {p : Pat}
theorem ds_asg (hK : B.K = X.K) (he : DE X B e te) (hg : PG X tg (p.tg X.K)) (hs : swapsWithSole [tg] e pos.line X.env = pure false := by rfl) (hw : swappedStores [tg] e X.env = pure none := by rfl)
    (h1 : (assignEach [tg] X.env).map (·.2) = [assign tg X.env] := by rfl) : DS X B (.Assign [tg] e pos) (sAsg p te) :=
  ⟨psOf (ps_asg he.pe hg hs hw h1) fun D σ H ⟨S, ρ, D', g, l, q⟩ => ⟨S, ρ, g, he.mo _ _ _ (fun o ρ1 q x S1 H1 k1 g1 h1 => by
    cases o with
    | v d =>
      have q : bindW p d ρ1 D'.nx := q
      unfold bindW at q
      split at q
      · rename_i ρ2 e2
        rw [← hK]
        exact Pat.serve p d x ρ1 ρ2 σ _ g1 h1 e2 fun σ' g' _ _ => l.nx ρ2 S1 σ' H1 k1 g' q
      · exact q.elim
    | s j => exact q.elim) q⟩, fun D D' ρ l q => he.mo _ _ _ (fun o ρ1 q => by
    cases o with
    | v d => exact bindW_mono l.nx q
    | s j => exact q) q⟩
end

/-! ### what a loop walks -/
abbrev IT := Env → (List D → Env → Prop) → Prop
def MoI (t : IT) : Prop := ∀ ρ p p', (∀ ds ρ', p ds ρ' → p' ds ρ') → t ρ p → t ρ p'
def ItAt (K : PySem.W.Frag) (S : List Addr) (H : Hp) (J : It) (ds : List D) : Prop := ds.length ≤ sizeLine ∧ ∀ i S' H', Kp S H S' H' → (∀ a ∈ S', ∃ o, H' a = some o) →
  (i < ds.length → J.go i H' ∧ ∀ x H2, J.yld i H' x H2 → Same H' H2 ∧ ∃ d, ds[i]? = some d ∧ R K S' H2 x d) ∧ (ds.length ≤ i → J.stop i H')
def iE (B : BI) (t : IT) : TI := fun σ H Q => ∃ S ρ, SR B S σ H ρ ∧ t ρ fun ds ρ' => ∀ J S1 H1, Kp S H S1 H1 → SR B S1 σ H1 ρ' → ItAt B.K S1 H1 J ds → Q J H1
structure DI (X : Cx) (B : BI) (tg e : Expr) (t : IT) : Prop where
  pi : PI X tg e (iE B t)
  mo : MoI t
theorem piOf {X : Cx} {tg e : Expr} {t t' : TI} (h : PI X tg e t) (i : ∀ σ H Q, t' σ H Q → t σ H Q) : PI X tg e t' := ⟨fun pins s σ H Q I q => h.run pins s σ H Q I (i σ H Q q)⟩
theorem itl_at {K : PySem.W.Frag} {S : List Addr} {H : Hp} {a : Addr} {xs : List V} {ds : List D} (h : (a ∉ S ∧ Rd H a (.lst xs)) ∨ KL K a xs) (r : RA K S H xs ds) (hl : ds.length ≤ sizeLine) : ItAt K S H (Itl K a) ds := ⟨hl, fun i S' H' k _ => by
  have hq : SqL K H' a xs := LX.sq (h.imp (fun h => (k.rd h.1 h.2).2) id)
  refine ⟨fun hi => ⟨?_, fun x H2 hy => ?_⟩, fun hi => ⟨xs, hq, by rw [r.length]; exact hi⟩⟩
  · have : i < xs.length := by rw [r.length]; exact hi
    exact ⟨xs, xs[i], hq, List.getElem?_eq_getElem this⟩
  · obtain ⟨rfl, hy⟩ := hy
    obtain ⟨d, e, rd⟩ := r.getV (hy xs hq)
    exact ⟨Same.refl _, d, e, rd.kp k⟩⟩
theorem itt_at {K : PySem.W.Frag} {S : List Addr} {H : Hp} {a : Addr} {xs : List V} {ds : List D} (h : (a ∉ S ∧ RdT H a xs) ∨ KT' K a xs) (r : RA K S H xs ds) (hl : ds.length ≤ sizeLine) : ItAt K S H (Itt K a) ds := ⟨hl, fun i S' H' k _ => by
  have hq : SqT K H' a xs := h.imp (fun h => (k.rdT h.1 h.2).2.rd) KT'.t
  refine ⟨fun hi => ⟨?_, fun x H2 hy => ?_⟩, fun hi => ⟨xs, hq, by rw [r.length]; exact hi⟩⟩
  · have : i < xs.length := by rw [r.length]; exact hi
    exact ⟨xs, xs[i], hq, List.getElem?_eq_getElem this⟩
  · obtain ⟨rfl, hy⟩ := hy
    obtain ⟨d, e, rd⟩ := r.getV (hy xs hq)
    exact ⟨Same.refl _, d, e, rd.kp k⟩⟩
def rangeD (lo : Int) (n : Nat) : List D := (List.range n).map fun (i : Nat) => PyData.int (lo + (i : Int))
theorem itr_at {K : PySem.W.Frag} {S : List Addr} {H : Hp} {lo : Int} {n : Nat} (hl : n ≤ sizeLine) : ItAt K S H (Itr lo n) (rangeD lo n) := ⟨by unfold rangeD; simpa using hl, fun i S' H' k _ => by
  have e : (rangeD lo n).length = n := by unfold rangeD; simp
  refine ⟨fun hi => ⟨by rw [e] at hi; exact hi, fun x H2 hy => ?_⟩, fun hi => by rw [e] at hi; exact hi⟩
  obtain ⟨rfl, rfl⟩ := hy
  rw [e] at hi
  exact ⟨Same.refl _, .int (lo + i), by unfold rangeD; simp [hi], .int _⟩⟩
/-- over a list, or a tuple -/
def iSeq (te : ET) : IT := fun ρ p => te ρ fun o ρ1 => match o with
  | .v (.list ds) => p ds ρ1
  | _ => False
def iTupD (te : ET) : IT := fun ρ p => te ρ fun o ρ1 => match o with
  | .v (.tuple ds) => p ds ρ1
  | _ => False
/-- range(n), range(a, b): within 2 ^ 62 -/
def rgW (i j : Int) (p : List D → Prop) : Prop := (-(2 ^ 62) ≤ i ∧ i < 2 ^ 62 ∧ -(2 ^ 62) ≤ j ∧ j < 2 ^ 62) ∧ (j - i).toNat ≤ sizeLine ∧ p (rangeD i (j - i).toNat)
def wI (o : Op) (p : Int → Prop) : Prop := match o with
  | .v (.int i) => p i
  | _ => False
theorem wI_inv {o : Op} {p : Int → Prop} (h : wI o p) : ∃ i, o = .v (.int i) ∧ p i := by
  unfold wI at h
  split at h
  · exact ⟨_, rfl, h⟩
  · exact h.elim
theorem wI_mono {o : Op} {p p' : Int → Prop} (i : ∀ d, p d → p' d) (h : wI o p) : wI o p' := by
  obtain ⟨j, rfl, h⟩ := wI_inv h
  exact i j h
def iRg1 (te : ET) : IT := fun ρ p => te ρ fun o ρ1 => wI o fun j => rgW 0 j fun ds => p ds ρ1
def iRg2 (ta tb : ET) : IT := fun ρ p => ta ρ fun o ρ1 => tb ρ1 fun o' ρ2 => wI o fun i => wI o' fun j => rgW i j fun ds => p ds ρ2
section
variable {X : Cx} {B : BI} {tg e a b : Expr} {te ta tb : ET} {pos p' : Pos}
theorem iSeq_mo (me : MoE te) : MoI (iSeq te) := fun ρ p p' h q => me _ _ _ (fun o ρ1 q => by
  split at q
  · exact h _ _ q
  · exact q) q
theorem iTupD_mo (me : MoE te) : MoI (iTupD te) := fun ρ p p' h q => me _ _ _ (fun o ρ1 q => by
  split at q
  · exact h _ _ q
  · exact q) q
theorem iRg1_mo (me : MoE te) : MoI (iRg1 te) := fun ρ p p' h q => me _ _ _ (fun o ρ1 q => wI_mono (fun j q => ⟨q.1, q.2.1, h _ _ q.2.2⟩) q) q
theorem iRg2_mo (ma : MoE ta) (mb : MoE tb) : MoI (iRg2 ta tb) := fun ρ p p' h q => ma _ _ _ (fun o ρ1 q => mb _ _ _ (fun o' ρ2 q => wI_mono (fun i q => wI_mono (fun j q => ⟨q.1, q.2.1, h _ _ q.2.2⟩) q) q) q) q
theorem di_list (hK : B.K = X.K) (he : DE X B e te) : DI X B tg e (iSeq te) :=
  ⟨piOf (pi_list he.pe) fun σ H Q ⟨S, ρ, g, q⟩ => ⟨S, ρ, g, he.mo _ _ _ (fun o ρ1 q x S1 H1 k1 g1 h1 => by
    split at q
    · rename_i ds
      cases (show R B.K S1 H1 x (.list ds) from h1) with
      | lst h r l => rw [← hK]; exact ⟨_, rfl, ⟨_, LX.sq (h.imp (·.2) id)⟩, q _ S1 H1 k1 g1 (itl_at h r l)⟩
    · exact q.elim) q⟩, iSeq_mo he.mo⟩
theorem di_tup (hK : B.K = X.K) (he : DE X B e te) : DI X B tg e (iTupD te) :=
  ⟨piOf (pi_tup he.pe) fun σ H Q ⟨S, ρ, g, q⟩ => ⟨S, ρ, g, he.mo _ _ _ (fun o ρ1 q x S1 H1 k1 g1 h1 => by
    split at q
    · rename_i ds
      cases (show R B.K S1 H1 x (.tuple ds) from h1) with
      | tup h r l => rw [← hK]; exact ⟨_, rfl, ⟨_, tq h⟩, q _ S1 H1 k1 g1 (itt_at h r l)⟩
    · exact q.elim) q⟩, iTupD_mo he.mo⟩
theorem di_rg1 (hg : Gl X "range") (hm : X.mg "range" = none) (he : DE X B e te) (hs : starEach [e] X.env = [(false, eval e X.env)] := by rfl) (ha1 : starEach (e :: []) X.env = (false, eval e X.env) :: starEach [] X.env := by rfl) : DI X B tg (.Call (.Name "range" p') [e] [] pos) (iRg1 te) :=
  ⟨piOf (pi_range1 hg hm (pa_cons he.pe pa_nil ha1) hs) fun σ H Q ⟨S, ρ, g, q⟩ => ⟨S, ρ, g, he.mo _ _ _ (fun o ρ1 q x S1 H1 k1 g1 h1 => by
    obtain ⟨j, rfl, q⟩ := wI_inv q
    cases (show R B.K S1 H1 x (.int j) from h1)
    have := q.2.2 (Itr 0 (j - 0).toNat) S1 H1 k1 g1 (itr_at q.2.1)
    rw [Int.sub_zero] at this
    exact ⟨j, rfl, q.1.2.2.1, q.1.2.2.2, this⟩) q⟩, iRg1_mo he.mo⟩
theorem di_rg2 (hg : Gl X "range") (hm : X.mg "range" = none) (ha : DE X B a ta) (hb : DE X B b tb) (hs : starEach [a, b] X.env = [(false, eval a X.env), (false, eval b X.env)] := by rfl) (hs2 : starEach [b] X.env = [(false, eval b X.env)] := by rfl)
    (ha1 : starEach (a :: [b]) X.env = (false, eval a X.env) :: starEach [b] X.env := by rfl) (ha2 : starEach (b :: []) X.env = (false, eval b X.env) :: starEach [] X.env := by rfl) : DI X B tg (.Call (.Name "range" p') [a, b] [] pos) (iRg2 ta tb) :=
  ⟨piOf (pi_range2 hg hm (pa_cons ha.pe (pa_cons hb.pe pa_nil ha2) ha1) hs hs2) fun σ H Q ⟨S, ρ, g, q⟩ => ⟨S, ρ, g, ha.mo _ _ _ (fun o ρ1 q x S1 H1 k1 g1 h1 => ⟨S1, ρ1, g1, hb.mo _ _ _ (fun o' ρ2 q y S2 H2 k2 g2 h2 => by
    obtain ⟨i, e1, qa⟩ := wI_inv q
    obtain ⟨j, e2, qb⟩ := wI_inv qa
    have h1' := h1.kp k2
    rw [e1] at h1'
    rw [e2] at h2
    cases (show R B.K S2 H2 x (.int i) from h1')
    cases (show R B.K S2 H2 y (.int j) from h2)
    exact ⟨_, _, rfl, qb.1, qb.2.2 _ S2 H2 (k1.trans k2) g2 (itr_at qb.2.1)⟩) q⟩) q⟩, iRg2_mo ha.mo hb.mo⟩
end

/-! ### for, while -/
def forW (p : Pat) (t : STy) (D : EndsD) : List PyData → Env → Prop
  | [], ρ => D.nx ρ
  | d :: r, ρ => bindW p d ρ fun ρ1 => t { D with nx := forW p t D r, ct := forW p t D r, bk := D.nx } ρ1
theorem forW_mono {p : Pat} {t : STy} (mt : MoS t) {D D' : EndsD} (l : D.le D') : ∀ (ds : List PyData) (ρ : Env), forW p t D ds ρ → forW p t D' ds ρ
  | [], ρ, h => l.nx _ h
  | d :: r, ρ, h => bindW_mono (fun ρ1 q => mt { D with nx := forW p t D r, ct := forW p t D r, bk := D.nx } { D' with nx := forW p t D' r, ct := forW p t D' r, bk := D'.nx } ρ1 ⟨fun ρ2 q => forW_mono mt l r ρ2 q, l.rt, l.nx, fun ρ2 q => forW_mono mt l r ρ2 q⟩ q) h
def sFor (ti : IT) (p : Pat) (t : STy) : STy := fun D ρ => ti ρ fun ds ρ1 => forW p t D ds ρ1
def whW (s : ETT) (t : STy) (D : EndsD) : Nat → Env → Prop
  | 0, _ => False
  | n + 1, ρ => s ρ fun b ρ1 => if b = true then t { D with nx := whW s t D n, ct := whW s t D n, bk := D.nx } ρ1 else D.nx ρ1
theorem whW_mono {s : ETT} {t : STy} (ms : MoT s) (mt : MoS t) {D D' : EndsD} (l : D.le D') : ∀ (n : Nat) (ρ : Env), whW s t D n ρ → whW s t D' n ρ
  | 0, ρ, h => h
  | n + 1, ρ, h => ms _ _ _ (fun b ρ1 q => ite_mono (fun q => mt { D with nx := whW s t D n, ct := whW s t D n, bk := D.nx } { D' with nx := whW s t D' n, ct := whW s t D' n, bk := D'.nx } ρ1 ⟨fun ρ2 q => whW_mono ms mt l n ρ2 q, l.rt, l.nx, fun ρ2 q => whW_mono ms mt l n ρ2 q⟩ q) (l.nx _) q) h
def sWhile (s : ETT) (t : STy) : STy := fun D ρ => ∃ n, whW s t D n ρ
section
variable {X : Cx} {B : BI} {tg e c : Expr} {ti : IT} {s : ETT} {t : STy} {p : Pat} {pos : Pos} {body : List Stmt}
theorem ds_for (hK : B.K = X.K) (hp : PassesOwn (model X.prog X.w) X.A X.env X.xe) (hc : X.calm = true) (hi : DI X B tg e ti) (hg : PG X tg (p.tg X.K)) (hb : DSs X B body t) (hs : ∀ x, foldedSetIterable e X.env x = pure x := by intro _; rfl) :
    DS X B (.For tg e body [] pos) (sFor ti p t) := by
  refine ⟨psOf (ps_for hp hc hi.pi hg hb.pss hs) fun D σ H ⟨S, ρ, D', g, l, q⟩ => ⟨S, ρ, g, hi.mo _ _ _ (fun ds ρ1 q J S1 H1 k1 g1 at1 => ?_) q⟩, fun D D' ρ l q => hi.mo _ _ _ (fun ds ρ1 q => forW_mono hb.mo l ds ρ1 q) q⟩
  refine ⟨fun i m σ H => m = ds.length - i ∧ i ≤ ds.length ∧ ∃ S' ρ', SR B S' σ H ρ' ∧ Kp S1 H1 S' H ∧ forW p t D' (ds.drop i) ρ', ⟨ds.length, by omega, Nat.zero_le _, S1, ρ1, g1, Kp.refl _ _, q⟩, ?_⟩
  rintro i m σ H ⟨rfl, hi, S', ρ', g', k', q'⟩
  by_cases hlt : i < ds.length
  · obtain ⟨go, yl⟩ := (at1.2 i S' H k' g'.trk).1 hlt
    refine .inr ⟨go, fun σ2 H2 => ∃ S2 ρ2, SR B S2 σ2 H2 ρ2 ∧ Kp S1 H1 S2 H2 ∧ forW p t D' (ds.drop (i + 1)) ρ2, fun σ2 H2 ⟨S2, ρ2, g2, k2, q2⟩ => ⟨ds.length - (i + 1), by omega, rfl, hlt, S2, ρ2, g2, k2, q2⟩, fun x H' hy => ?_⟩
    obtain ⟨sm, d, ed, rd⟩ := yl x H' hy
    rw [List.drop_eq_getElem_cons hlt] at q'
    have ed' : ds[i] = d := by rw [List.getElem?_eq_getElem hlt] at ed; exact Option.some.inj ed
    rw [ed'] at q'
    have q' : bindW p d ρ' _ := q'
    unfold bindW at q'
    split at q'
    · rename_i ρ2 e2
      rw [← hK]
      refine Pat.serve p d x ρ' ρ2 σ _ (g'.same sm) rd e2 fun σ3 g3 _ _ => ?_
      refine ⟨S', ρ2, { D' with nx := forW p t D' (ds.drop (i + 1)), ct := forW p t D' (ds.drop (i + 1)), bk := D'.nx }, g3, ⟨fun ρ4 S4 σ4 H4 k4 g4 q4 => ⟨S4, ρ4, g4, (k'.trans (Kp.same sm)).trans k4, q4⟩, fun r ρ4 x4 S4 σ4 H4 k4 => l.rt r ρ4 x4 S4 σ4 H4 (((k1.trans k').trans (Kp.same sm)).trans k4),
        fun ρ4 S4 σ4 H4 k4 => l.nx ρ4 S4 σ4 H4 (((k1.trans k').trans (Kp.same sm)).trans k4), fun ρ4 S4 σ4 H4 k4 g4 q4 => ⟨S4, ρ4, g4, (k'.trans (Kp.same sm)).trans k4, q4⟩⟩, q'⟩
    · exact q'.elim
  · refine .inl ⟨(at1.2 i S' H k' g'.trk).2 (by omega), l.nx ρ' S' σ H (k1.trans k') g' ?_⟩
    rw [List.drop_of_length_le (by omega)] at q'
    exact q'
theorem ds_while (hp : PassesOwn (model X.prog X.w) X.A X.env X.xe) (hc : DT X B c s) (hb : DSs X B body t) : DS X B (.While c body [] pos) (sWhile s t) := by
  refine ⟨psOf (ps_while hp hc.pt hb.pss) fun D σ H ⟨S, ρ, D', g, l, n, q⟩ => ?_, fun D D' ρ l ⟨n, q⟩ => ⟨n, whW_mono hc.mo hb.mo l n ρ q⟩⟩
  refine ⟨fun m σ H' => ∃ S' ρ', SR B S' σ H' ρ' ∧ Kp S H S' H' ∧ whW s t D' m ρ', ⟨n, S, ρ, g, Kp.refl _ _, q⟩, ?_⟩
  rintro m σ1 H1 ⟨S1, ρ1, g1, k1, q1⟩
  cases m with
  | zero => exact q1.elim
  | succ m =>
    refine ⟨S1, ρ1, g1, hc.mo _ _ _ (fun b ρ2 q2 S2 H2 k2 g2 => ite_mono (fun q2 => ?_) (fun q2 => l.nx ρ2 S2 σ1 H2 (k1.trans k2) g2 q2) q2) q1⟩
    refine ⟨fun σ3 H3 => ∃ S3 ρ3, SR B S3 σ3 H3 ρ3 ∧ Kp S H S3 H3 ∧ whW s t D' m ρ3, fun σ3 H3 h3 => ⟨m, Nat.lt_succ_self m, h3⟩, S2, ρ2, { D' with nx := whW s t D' m, ct := whW s t D' m, bk := D'.nx }, g2, ⟨fun ρ4 S4 σ4 H4 k4 g4 q4 => ⟨S4, ρ4, g4, (k1.trans k2).trans k4, q4⟩, fun r ρ4 x4 S4 σ4 H4 k4 => l.rt r ρ4 x4 S4 σ4 H4 ((k1.trans k2).trans k4),
      fun ρ4 S4 σ4 H4 k4 => l.nx ρ4 S4 σ4 H4 ((k1.trans k2).trans k4), fun ρ4 S4 σ4 H4 k4 g4 q4 => ⟨S4, ρ4, g4, (k1.trans k2).trans k4, q4⟩⟩, q2⟩
end
end DL

/-! DL4: argument lists, displays, defs and their calls. -/
namespace DL
open PySem PySem.Spec PyProof.Rows L2

/-! ### argument lists -/
def aNil : ETA := fun ρ p => p [] ρ
def aCons (te : ET) (ta : ETA) : ETA := fun ρ p => te ρ fun o ρ1 => ta ρ1 fun os ρ2 => p (o :: os) ρ2
theorem OpsAt.kp {B : BI} {S S' : List Addr} {σ : L2.St} {H H' : Hp} (k : Kp S H S' H') : ∀ {xs : List V} {os : List Op}, OpsAt B S σ H xs os → OpsAt B S' σ H' xs os
  | _, _, .nil => .nil
  | _, _, .cons h r => .cons (h.kp k) (r.kp k)
theorem OpsAt.length {B : BI} {S : List Addr} {σ : L2.St} {H : Hp} : ∀ {xs : List V} {os : List Op}, OpsAt B S σ H xs os → xs.length = os.length
  | _, _, .nil => rfl
  | _, _, .cons _ r => congrArg (· + 1) r.length
theorem OpsAt.at {B : BI} {S : List Addr} {σ : L2.St} {H : Hp} : ∀ {xs : List V} {os : List Op} {j : Nat} {o : Op}, OpsAt B S σ H xs os → os[j]? = some o → ∃ x, xs[j]? = some x ∧ OpAt B S σ H x o
  | _, _, _, _, .nil, e => by simp at e
  | _, _, 0, _, .cons r _, e => by simp at e; subst e; exact ⟨_, rfl, r⟩
  | _, _, i + 1, _, .cons _ t, e => by
    obtain ⟨v, h1, h2⟩ := OpsAt.at (j := i) t (by simpa using e)
    exact ⟨v, by simpa using h1, h2⟩
/-- data alone -/
def allD : List Op → Option (List D)
  | [] => some []
  | .v d :: r => (allD r).map (d :: ·)
  | .s _ :: _ => none
theorem OpsAt.all {B : BI} {S : List Addr} {σ : L2.St} {H : Hp} : ∀ {xs : List V} {os : List Op} {ds : List D}, OpsAt B S σ H xs os → allD os = some ds → RA B.K S H xs ds
  | _, _, _, .nil, e => by cases e; exact .nil
  | _, .v d :: os, _, .cons h r, e => by
    unfold allD at e
    cases q : allD os with
    | none => rw [q] at e; cases e
    | some ds' => rw [q] at e; cases e; exact .cons h (OpsAt.all r q)
  | _, .s _ :: _, _, .cons _ _, e => by cases e
/-- as operands: the owned ones too, each by itself -/
def getAll (ρ : Env) : List Op → Option (List D)
  | [] => some []
  | o :: r => (o.get ρ).bind fun d => (getAll ρ r).map (d :: ·)
inductive RBs (K : PySem.W.Frag) (S : List Addr) (H : Hp) : List V → List D → Prop
  | nil : RBs K S H [] []
  | cons {v : V} {vs : List V} {d : D} {ds : List D} : RB K S H v d → RBs K S H vs ds → RBs K S H (v :: vs) (d :: ds)
theorem OpsAt.gets {B : BI} {S : List Addr} {σ : L2.St} {H : Hp} {ρ : Env} (g : SR B S σ H ρ) : ∀ {xs : List V} {os : List Op} {ds : List D}, OpsAt B S σ H xs os → getAll ρ os = some ds → RBs B.K S H xs ds
  | _, _, _, .nil, e => by cases e; exact .nil
  | _, o :: os, _, .cons h r, e => by
    unfold getAll at e
    cases q : o.get ρ with
    | none => rw [q] at e; cases e
    | some d =>
      rw [q] at e
      cases q2 : getAll ρ os with
      | none => rw [q2] at e; cases e
      | some ds' => rw [q2] at e; cases e; exact .cons (h.get g q) (OpsAt.gets g r q2)
def wDs (o : Option (List D)) (p : List D → Prop) : Prop := match o with
  | some d => p d
  | none => False
theorem wDs_inv {o : Option (List D)} {p : List D → Prop} (h : wDs o p) : ∃ d, o = some d ∧ p d := by
  cases o with
  | none => exact h.elim
  | some d => exact ⟨d, rfl, h⟩
theorem wDs_mono {o : Option (List D)} {p p' : List D → Prop} (i : ∀ d, p d → p' d) (h : wDs o p) : wDs o p' := by
  obtain ⟨d, rfl, h⟩ := wDs_inv h
  exact i d h
section
variable {X : Cx} {B : BI} {e : Expr} {es : List Expr} {te : ET} {ta : ETA} {pos : Pos}
theorem da_nil : DA X B [] aNil := ⟨paOf pa_nil fun σ H Q ⟨S, ρ, g, q⟩ => q [] S H (Kp.refl _ _) g OpsAt.nil, fun ρ p p' h q => h _ _ q⟩
theorem da_cons (he : DE X B e te) (hr : DA X B es ta) (hs : starEach (e :: es) X.env = (false, eval e X.env) :: starEach es X.env := by rfl) : DA X B (e :: es) (aCons te ta) :=
  ⟨paOf (pa_cons he.pe hr.pa hs) fun σ H Q ⟨S, ρ, g, q⟩ => ⟨S, ρ, g, he.mo _ _ _ (fun o ρ1 q x S1 H1 k1 g1 h1 => ⟨S1, ρ1, g1, hr.mo _ _ _ (fun os ρ2 q xs S2 H2 k2 g2 h2 =>
    q (x :: xs) S2 H2 (k1.trans k2) g2 (.cons (h1.kp k2) h2)) q⟩) q⟩, fun ρ p p' h q => he.mo _ _ _ (fun o ρ1 q => hr.mo _ _ _ (fun os ρ2 q => h _ _ q) q) q⟩

/-! ### displays -/
def eTup (ta : ETA) : ET := fun ρ p => ta ρ fun os ρ1 => wDs (allD os) fun ds => ds.length ≤ sizeLine ∧ p (.v (.tuple ds)) ρ1
def eLst (ta : ETA) : ET := fun ρ p => ta ρ fun os ρ1 => wDs (allD os) fun ds => ds.length ≤ sizeLine ∧ p (.v (.list ds)) ρ1
def oLst (ta : ETA) : OT := fun ρ p => ta ρ fun os ρ1 => wDs (allD os) fun ds => ds.length ≤ sizeLine ∧ p (.lst ds) ρ1
theorem disp_mo {c : List D → Op} (ma : MoA ta) : MoE (fun ρ p => ta ρ fun os ρ1 => wDs (allD os) fun ds => ds.length ≤ sizeLine ∧ p (c ds) ρ1) := fun ρ p p' h q => ma _ _ _ (fun os ρ1 q => wDs_mono (fun ds q => ⟨q.1, h _ _ q.2⟩) q) q
theorem same_new {H : Hp} {p : Addr} {o : HO} (h : H p = none) : Same H (upd H p o) := fun b x e => by
  rw [upd_ne (ne_of_none e h)]
  exact e
theorem notS {S : List Addr} {H : Hp} (t : ∀ a ∈ S, ∃ o, H a = some o) {p : Addr} (h : H p = none) : p ∉ S := fun m => by
  obtain ⟨o, e⟩ := t p m
  rw [h] at e; cases e
theorem d_tup {k : Nat} (h : DA X B es ta) : DE X B (.Tuple es k pos) (eTup ta) :=
  ⟨peOf (pe_tupF h.pa) fun σ H Q ⟨S, ρ, g, q⟩ => ⟨S, ρ, g, h.mo _ _ _ (fun os ρ1 q xs S1 H1 k1 g1 h1 => by
    obtain ⟨ds, ed, hl, q⟩ := wDs_inv q
    have ra := h1.all ed
    refine ⟨by rw [ra.length]; exact hl, fun p o hp hd => q _ S1 _ (k1.trans (Kp.same (same_new hp))) (g1.same (same_new hp)) ?_⟩
    exact R.tup (.inl ⟨notS g1.trk hp, NewT.at hd⟩) (ra.kp (Kp.same (same_new hp))) hl) q⟩, disp_mo (c := fun ds => .v (.tuple ds)) h.mo⟩
theorem d_lst (h : DA X B es ta) : DE X B (.List es pos) (eLst ta) :=
  ⟨peOf (pe_lst h.pa) fun σ H Q ⟨S, ρ, g, q⟩ => ⟨S, ρ, g, h.mo _ _ _ (fun os ρ1 q xs S1 H1 k1 g1 h1 => by
    obtain ⟨ds, ed, hl, q⟩ := wDs_inv q
    have ra := h1.all ed
    refine ⟨by rw [ra.length]; exact hl, fun p hp => q _ S1 _ (k1.trans (Kp.same (same_new hp))) (g1.same (same_new hp)) ?_⟩
    exact R.lst (.inl ⟨notS g1.trk hp, .inl upd_same⟩) (ra.kp (Kp.same (same_new hp))) hl) q⟩, disp_mo (c := fun ds => .v (.list ds)) h.mo⟩
theorem do_lst (h : DA X B es ta) : DO X B (.List es pos) (oLst ta) :=
  ⟨peOf (pe_lst h.pa) fun σ H Q ⟨S, ρ, g, q⟩ => ⟨S, ρ, g, h.mo _ _ _ (fun os ρ1 q xs S1 H1 k1 g1 h1 => by
    obtain ⟨ds, ed, hl, q⟩ := wDs_inv q
    have ra := h1.all ed
    refine ⟨by rw [ra.length]; exact hl, fun p hp => ?_⟩
    have n : ∀ a ∈ [p], H1 a = none := fun a ha => by rw [List.mem_singleton.mp ha]; exact hp
    refine q _ ([p] ++ S1) _ [p] (fun _ => .lst xs) (k1.trans (kp_newL (same_new hp) n)) (g1.pins (same_new hp) n fun a ha => by rw [List.mem_singleton.mp ha]; exact upd_same) ⟨rfl, hl, xs, upd_same, ra.kp (kp_newL (same_new hp) n)⟩ (fun a ha => g1.fresh0 (n a ha)) fun p' hp' m => ?_
    have := (g1.pin p' hp').1
    rw [n _ m] at this; cases this) q⟩,
    fun ρ p p' i q => h.mo _ _ _ (fun os ρ1 q => wDs_mono (fun ds q => ⟨q.1, i _ _ q.2⟩) q) q⟩
end

/-! ### defs -/
abbrev FT := List Sl → (Ret → List Sl → Prop) → Prop
def MoF (G : FT) : Prop := ∀ args p p', (∀ r a, p r a → p' r a) → G args p → G args p'
def ArgAt (K : PySem.W.Frag) (S : List Addr) (H : Hp) (v : V) (a : Sl) (fp : List Addr) : Prop := match a with
  | .d x => R K S H v x ∧ fp = []
  | .own f o => f = false ∧ OwnP K S H v o fp ∧ ∀ a ∈ fp, a ∈ S
  | .un => False
structure ArgsAt (K : PySem.W.Frag) (S : List Addr) (H : Hp) (vs : List V) (args : List Sl) (fps : Nat → List Addr) : Prop where
  len : vs.length = args.length
  each : ∀ (i : Nat) (v : V) (a : Sl), vs[i]? = some v → args[i]? = some a → ArgAt K S H v a (fps i)
  out : ∀ i, args.length ≤ i → fps i = []
  dis : ∀ i j, i ≠ j → ∀ a ∈ fps i, a ∉ fps j
/-- fp: the objects of an owned thing that is handed back -/
def RetOut (K : PySem.W.Frag) (S : List Addr) (H' : Hp) (v : V) (fp : List Addr) : Ret → Prop
  | .d d => fp = [] ∧ R K S H' v d
  | .own o => OwnP K (fp ++ S) H' v o fp
/-- what a def is worth, as a promise of the heap's layer -/
def Post (K : PySem.W.Frag) (S : List Addr) (H : Hp) (vs : List V) (fps : Nat → List Addr) (Q : VK) (r : Ret) (args' : List Sl) : Prop :=
  ∀ v H' fp, (∀ a ∈ fp, H a = none) → (∀ a o, (∀ i, a ∉ fps i) → H a = some o → H' a = some o) → (∀ a o, H a = some o → ∃ o', H' a = some o') → (∀ (i : Nat) (o : O), args'[i]? = some (.own false o) → ∃ v, vs[i]? = some v ∧ OwnP K (fp ++ S) H' v o (fps i)) → RetOut K S H' v fp r → Q v H'
def spF (K : PySem.W.Frag) (G : FT) : Sp := fun vs H Q _ => ∃ S args fps, (∀ a ∈ S, ∃ o, H a = some o) ∧ ArgsAt K S H vs args fps ∧ G args (Post K S H vs fps Q)
/-- a def by its body: n parameters, m names -/
def fnE (n : Nat) (post : Ret → List Sl → Prop) : EndsD := { nx := fun ρ => post (.d .none) (ρ.take n), rt := fun r ρ => post r (ρ.take n) }
def fnW (n m : Nat) (t : STy) : FT := fun args post => args.length = n ∧ t (fnE n post) (args ++ List.replicate (m - n) .un)
theorem fnW_mo {n m : Nat} {t : STy} (mt : MoS t) : MoF (fnW n m t) := fun args p p' h q => ⟨q.1, mt (fnE n p) (fnE n p') _ ⟨fun ρ q => h _ _ q, fun r ρ q => h _ _ q, fun _ q => q, fun _ q => q⟩ q.2⟩

theorem fn_start {K : PySem.W.Frag} {N : List Str} {S : List Addr} {H : Hp} {vs : List V} {args : List Sl} {fps : Nat → List Addr} (t : ∀ a ∈ S, ∃ o, H a = some o) (h : ArgsAt K S H vs args fps) :
    SR { K := K, H0 := H, vs0 := vs, fps0 := fps, SC := S, fr := [] } S (L2.start N vs) H (args ++ List.replicate (N.length - args.length) .un) := by
  have getA : ∀ (i : Nat) (a : Sl), (args ++ List.replicate (N.length - args.length) .un)[i]? = some a → a = .un ∨ ∃ v, vs[i]? = some v ∧ args[i]? = some a ∧ (L2.start N vs)[i]? = some (some v) := fun i a e => by
    by_cases hi : i < args.length
    · rw [List.getElem?_append_left hi] at e
      have hv : i < vs.length := by rw [h.len]; exact hi
      refine .inr ⟨vs[i], List.getElem?_eq_getElem hv, e, ?_⟩
      unfold L2.start
      rw [List.getElem?_append_left (by simpa using hv), List.getElem?_map, List.getElem?_eq_getElem hv]
      rfl
    · rw [List.getElem?_append_right (by omega)] at e
      exact .inl (List.eq_of_mem_replicate (List.mem_of_getElem? e))
  have fsub : ∀ i, ∀ a ∈ fps i, a ∈ S := fun i a ha => by
    by_cases hi : i < args.length
    · have hv : i < vs.length := by rw [h.len]; exact hi
      have := h.each i vs[i] args[i] (List.getElem?_eq_getElem hv) (List.getElem?_eq_getElem hi)
      cases q : args[i] with
      | un => rw [q] at this; exact this.elim
      | d x => rw [q] at this; rw [this.2] at ha; cases ha
      | own f o => rw [q] at this; exact this.2.2 a ha
    · rw [h.out i (by omega)] at ha; cases ha
  refine { len := ?_, dat := fun i d e => ?_, own := ⟨fps, fun i f o e => ?_, fun i j f o g o' hij _ _ => h.dis i j hij⟩, keep := fun a o _ e => e, trk := t, sub := fun a ha => ha, there := t, fsub := fsub, pin := fun p hp => nomatch hp }
  · unfold L2.start
    simp only [List.length_append, List.length_replicate, List.length_map]
    rw [h.len]
  · rcases getA i _ e with e | ⟨v, e1, e2, e3⟩
    · cases e
    · exact ⟨v, e3, (h.each i v _ e1 e2).1⟩
  · rcases getA i _ e with e | ⟨v, e1, e2, e3⟩
    · cases e
    · have := h.each i v _ e1 e2
      obtain ⟨q1, q2, q3⟩ : f = false ∧ OwnP K S H v o (fps i) ∧ ∀ a ∈ fps i, a ∈ S := this
      exact ⟨v, e3, q2, fun a ha => ⟨q3 a ha, fun p hp => nomatch hp⟩, .inr ⟨q1, e1, rfl⟩⟩
theorem fn_link {K : PySem.W.Frag} {S : List Addr} {H : Hp} {vs : List V} {fps : Nat → List Addr} {Q : VK} {n : Nat} :
    Lk { K := K, H0 := H, vs0 := vs, fps0 := fps, SC := S, fr := [] } S H (fnE n (Post K S H vs fps Q)) { nx := fun _ H' => Q .non H', rt := Q } := by
  have main : ∀ (r : Ret) (ρ : Env) (x : V) (S' : List Addr) (σ : L2.St) (H' : Hp), SR { K := K, H0 := H, vs0 := vs, fps0 := fps, SC := S, fr := [] } S' σ H' ρ → RetAt { K := K, H0 := H, vs0 := vs, fps0 := fps, SC := S, fr := [] } S' H' x r →
      Post K S H vs fps Q r (ρ.take n) → Q x H' := fun r ρ x S' σ H' g ra q => by
    obtain ⟨fp, f0, fS, ro⟩ : ∃ fp, (∀ a ∈ fp, H a = none) ∧ (∀ a ∈ fp, a ∈ S') ∧ RetOut K S H' x fp r := by
      cases r with
      | d d => exact ⟨[], (fun a ha => by cases ha), (fun a ha => by cases ha), rfl, ra⟩
      | own o =>
        obtain ⟨fp, w, hS, h0⟩ := ra
        exact ⟨fp, h0, hS, w.kp (Kp.sub fun a ha => (List.mem_append.mp ha).elim (hS a) (g.sub a)) fun _ _ => rfl⟩
    refine q x H' fp f0 (fun a o hn e => g.keep a o hn e) (fun a o e => ?_) (fun i o e => ?_) ro
    · by_cases c : a ∈ S
      · exact g.trk a (g.sub a c)
      · exact ⟨o, g.keep a o (fun i m => c (g.fsub i a m)) e⟩
    · obtain ⟨fps', g1, _⟩ := g.own
      have e' : ρ[i]? = some (.own false o) := by
        rw [List.getElem?_take] at e
        split at e
        · exact e
        · cases e
      obtain ⟨v, e1, w, _, g4⟩ := g1 i false o e'
      rcases g4 with ⟨z, _⟩ | ⟨_, z1, z2⟩
      · cases z
      · refine ⟨v, z1, ?_⟩
        rw [z2] at w
        exact w.kp (Kp.sub fun a ha => (List.mem_append.mp ha).elim (fS a) (g.sub a)) fun _ _ => rfl
  exact ⟨fun ρ S' σ H' _ g q => main (.d .none) ρ .non S' σ H' g R.non q, fun r ρ x S' σ H' _ g ra q => main r ρ x S' σ H' g ra q, fun ρ S' σ H' _ _ q => q.elim, fun ρ S' σ H' _ _ q => q.elim⟩
section
variable {P : Program} {w : World} {K : PySem.W.Frag} {mg : Str → Option Value} {base : Heap}
theorem fn_ok {x qual : Str} {st : Stmt} {f : Addr} {fd : FuncData} {N ps : List Str} {k : Nat} {t : STy} (F : Fun K x qual st f fd) (Sc : FnScope N ps (defScope st))
    (hbody : ∀ (cdv : Value) (A : Around) (outer : List PySem.Env) (s : Shared) (H : Hp) (E : XK) (B : BI), B.K = K → Room k (A.deeper (envOfC qual (defScope st) s.heap.objs.size f cdv)) →
      DSs (cxOf CX0 P w K mg base N qual (defScope st) f cdv A outer s H E).nox B (defBody st) t) : FnOk P w K mg base CX0 (k + 1) f fd ps (spF K (fnW ps.length N.length t)) := by
  refine F.ok Sc (fun vs H Q E h => ?_) (fun cdv A outer s H vs Q E hr h => ?_)
  · obtain ⟨S, args, fps, t, h, q⟩ := h
    rw [h.len]; exact q.1
  · obtain ⟨S, args, fps, tr, h, hl, q⟩ := h
    have b := hbody cdv A outer s H E { K := K, H0 := H, vs0 := vs, fps0 := fps, SC := S, fr := [] } rfl hr
    refine ⟨_, b.pss, S, _, _, fn_start (N := N) tr h, fn_link (n := ps.length), ?_⟩
    rw [hl]; exact q
end

/-! ### calls -/
def argSl (ρ : Env) : Op → Sl
  | .v d => .d d
  | .s i => match ρ[i]? with
    | some (.own _ o) => .own false o
    | _ => .un
def slotsOf : List Op → List Nat
  | [] => []
  | .v _ :: r => slotsOf r
  | .s i :: r => i :: slotsOf r
def putBack : Env → List Op → List Sl → Env
  | ρ, .v _ :: os, _ :: as => putBack ρ os as
  | ρ, .s i :: os, a :: as => putBack (match ρ[i]?, a with
    | some (.own f _), .own false o => ρ.set i (.own f o)
    | _, _ => ρ.set i .un) os as
  | ρ, [], _ => ρ
  | ρ, .v _ :: os, [] => putBack ρ os []
  | ρ, .s i :: os, [] => putBack (ρ.set i .un) os []
theorem mem_slotsOf {os : List Op} {i : Nat} : i ∈ slotsOf os ↔ ∃ j : Nat, os[j]? = some (Op.s i) := by
  induction os with
  | nil => simp [slotsOf]
  | cons o r ih =>
    cases o with
    | v d =>
      show i ∈ slotsOf r ↔ _
      rw [ih]
      constructor
      · rintro ⟨j, e⟩; exact ⟨j + 1, by simpa using e⟩
      · rintro ⟨j, e⟩
        cases j with
        | zero => simp at e
        | succ j => exact ⟨j, by simpa using e⟩
    | s k =>
      show i ∈ k :: slotsOf r ↔ _
      rw [List.mem_cons, ih]
      constructor
      · rintro (rfl | ⟨j, e⟩)
        · exact ⟨0, rfl⟩
        · exact ⟨j + 1, by simpa using e⟩
      · rintro ⟨j, e⟩
        cases j with
        | zero => simp at e; exact .inl e.symm
        | succ j => exact .inr ⟨j, by simpa using e⟩
theorem putBack_length : ∀ (os : List Op) (as : List Sl) (ρ : Env), (putBack ρ os as).length = ρ.length
  | [], _, ρ => by unfold putBack; rfl
  | .v _ :: os, a :: as, ρ => by unfold putBack; exact putBack_length os as ρ
  | .v _ :: os, [], ρ => by unfold putBack; exact putBack_length os [] ρ
  | .s i :: os, [], ρ => by unfold putBack; rw [putBack_length os []]; simp
  | .s i :: os, a :: as, ρ => by
    unfold putBack
    rw [putBack_length os as]
    split <;> simp
/-- what stands at a slot behind a call -/
theorem putBack_get : ∀ (os : List Op) (as : List Sl) (ρ : Env) (i : Nat) (x : Sl), (slotsOf os).Nodup → (putBack ρ os as)[i]? = some x →
    (i ∉ slotsOf os ∧ ρ[i]? = some x) ∨ (i ∈ slotsOf os ∧ (x = Sl.un ∨ ∃ (j : Nat) (f : Bool) (o o' : O), os[j]? = some (Op.s i) ∧ as[j]? = some (Sl.own false o') ∧ ρ[i]? = some (Sl.own f o) ∧ x = Sl.own f o'))
  | [], as, ρ, i, x, _, e => by unfold putBack at e; exact .inl ⟨by simp [slotsOf], e⟩
  | .v _ :: os, a :: as, ρ, i, x, n, e => by
    unfold putBack at e
    rcases putBack_get os as ρ i x n e with h | ⟨h1, h2⟩
    · exact .inl h
    · refine .inr ⟨h1, h2.imp id ?_⟩
      rintro ⟨j, f, o, o', q1, q2, q3⟩
      exact ⟨j + 1, f, o, o', by simpa using q1, by simpa using q2, q3⟩
  | .v _ :: os, [], ρ, i, x, n, e => by
    unfold putBack at e
    rcases putBack_get os [] ρ i x n e with h | ⟨h1, h2⟩
    · exact .inl h
    · refine .inr ⟨h1, h2.imp id ?_⟩
      rintro ⟨j, f, o, o', q1, q2, q3⟩
      simp at q2
  | .s k :: os, [], ρ, i, x, n, e => by
    unfold putBack at e
    obtain ⟨n1, n2⟩ := List.nodup_cons.mp (show (k :: slotsOf os).Nodup from n)
    rcases putBack_get os [] _ i x n2 e with ⟨h1, h2⟩ | ⟨h1, h2⟩
    · rw [List.getElem?_set] at h2
      by_cases c : k = i
      · rw [if_pos c] at h2
        split at h2
        · cases h2; exact .inr ⟨by rw [c]; exact List.mem_cons_self, .inl rfl⟩
        · cases h2
      · rw [if_neg c] at h2
        exact .inl ⟨fun m => (List.mem_cons.mp m).elim (fun e => c e.symm) h1, h2⟩
    · refine .inr ⟨List.mem_cons_of_mem _ h1, h2.imp id ?_⟩
      rintro ⟨j, f, o, o', q1, q2, q3⟩
      simp at q2
  | .s k :: os, a :: as, ρ, i, x, n, e => by
    unfold putBack at e
    obtain ⟨n1, n2⟩ := List.nodup_cons.mp (show (k :: slotsOf os).Nodup from n)
    rcases putBack_get os as _ i x n2 e with ⟨h1, h2⟩ | ⟨h1, h2⟩
    · by_cases c : k = i
      · subst c
        refine .inr ⟨List.mem_cons_self, ?_⟩
        split at h2
        · rename_i f o o' er
          rw [List.getElem?_set, if_pos rfl] at h2
          split at h2
          · cases h2
            exact .inr ⟨0, f, o, o', rfl, rfl, er, rfl⟩
          · cases h2
        · rw [List.getElem?_set, if_pos rfl] at h2
          split at h2
          · cases h2; exact .inl rfl
          · cases h2
      · refine .inl ⟨fun m => (List.mem_cons.mp m).elim (fun e => c e.symm) h1, ?_⟩
        split at h2
        · rw [List.getElem?_set, if_neg c] at h2; exact h2
        · rw [List.getElem?_set, if_neg c] at h2; exact h2
    · refine .inr ⟨List.mem_cons_of_mem _ h1, h2.imp id ?_⟩
      rintro ⟨j, f, o, o', q1, q2, q3, q4⟩
      refine ⟨j + 1, f, o, o', by simpa using q1, by simpa using q2, ?_, q4⟩
      have c : k ≠ i := fun z => n1 (by rw [z]; exact h1)
      split at q3
      · rw [List.getElem?_set, if_neg c] at q3; exact q3
      · rw [List.getElem?_set, if_neg c] at q3; exact q3
theorem nodup_slots : ∀ {os : List Op} {i j k : Nat}, (slotsOf os).Nodup → os[j]? = some (.s i) → os[k]? = some (.s i) → j = k
  | [], _, _, _, _, e, _ => by simp at e
  | .v _ :: os, i, j, k, n, e1, e2 => by
    cases j with
    | zero => simp at e1
    | succ j =>
      cases k with
      | zero => simp at e2
      | succ k => rw [nodup_slots (os := os) (i := i) (j := j) (k := k) n (by simpa using e1) (by simpa using e2)]
  | .s m :: os, i, j, k, n, e1, e2 => by
    obtain ⟨n1, n2⟩ := List.nodup_cons.mp (show (m :: slotsOf os).Nodup from n)
    cases j with
    | zero =>
      have em : m = i := by simpa using e1
      cases k with
      | zero => rfl
      | succ k => exact absurd (mem_slotsOf.mpr ⟨k, by simpa [em] using e2⟩) n1
    | succ j =>
      cases k with
      | zero =>
        have em : m = i := by simpa using e2
        exact absurd (mem_slotsOf.mpr ⟨j, by simpa [em] using e1⟩) n1
      | succ k => rw [nodup_slots (os := os) (i := i) (j := j) (k := k) n2 (by simpa using e1) (by simpa using e2)]
/-- a call: what the callee may change, and the environment behind it -/
theorem SR.call {B : BI} {S : List Addr} {σ : L2.St} {H : Hp} {ρ : Env} {os : List Op} {xs : List V} (h : SR B S σ H ρ) (ops : OpsAt B S σ H xs os) (nd : (slotsOf os).Nodup) (nu : ∀ j : Nat, (os.map (argSl ρ))[j]? ≠ some Sl.un) :
    ∃ fps, ArgsAt B.K S H xs (os.map (argSl ρ)) fps ∧ ∀ H' args' fp ct, (∀ a ∈ fp, H a = none) → (∀ a ∈ fp, H' a = some (ct a)) → (∀ a o, (∀ i, a ∉ fps i) → H a = some o → H' a = some o) → (∀ a o, H a = some o → ∃ o', H' a = some o') →
        (∀ (j : Nat) (o : O), args'[j]? = some (.own false o) → ∃ v, xs[j]? = some v ∧ OwnP B.K (fp ++ S) H' v o (fps j)) →
      Kp S H (fp ++ S) H' ∧ SR { B with fr := pinsOf fp ct ++ B.fr } (fp ++ S) σ H' (putBack ρ os args') := by
  obtain ⟨fps, h1, h2⟩ := id h.own
  have owned : ∀ (j i : Nat), os[j]? = some (Op.s i) → ∃ f o, ρ[i]? = some (Sl.own f o) := fun j i e => by
    have := nu j
    rw [List.getElem?_map, e] at this
    cases q : ρ[i]? with
    | none => simp [argSl, q] at this
    | some sl =>
      cases sl with
      | un => simp [argSl, q] at this
      | d x => simp [argSl, q] at this
      | own f o => exact ⟨f, o, rfl⟩
  refine ⟨fun j => match os[j]? with
    | some (.s i) => fps i
    | _ => [], ⟨by rw [ops.length]; simp, fun j v a ev ea => ?_, fun j hj => ?_, fun j k hjk a ha hb => ?_⟩, fun H' args' fp ct hf hc hk ht ho => ?_⟩
  · rw [List.getElem?_map] at ea
    cases eo : os[j]? with
    | none => rw [eo] at ea; cases ea
    | some o =>
      rw [eo] at ea
      cases ea
      obtain ⟨v', e1, at1⟩ := ops.at eo
      rw [ev] at e1; cases e1
      cases o with
      | v d => exact ⟨at1, rfl⟩
      | s i =>
        obtain ⟨f, o, e2⟩ := owned j i eo
        obtain ⟨u, q1, q2, q3, _⟩ := h1 i f o e2
        have at1 : σ[i]? = some (some v) := at1
        rw [at1] at q1; cases q1
        simp only [argSl, e2]
        exact ⟨rfl, q2, fun a ha => (q3 a ha).1⟩
  · have : os[j]? = none := List.getElem?_eq_none (by simpa using hj)
    simp only [this]
  · cases e1 : os[j]? with
    | none => rw [e1] at ha; cases ha
    | some o1 =>
      cases e2 : os[k]? with
      | none => rw [e2] at hb; cases hb
      | some o2 =>
        rw [e1] at ha; rw [e2] at hb
        cases o1 with
        | v _ => cases ha
        | s i1 =>
          cases o2 with
          | v _ => cases hb
          | s i2 =>
            obtain ⟨f, o, q1⟩ := owned j i1 e1
            obtain ⟨f', o', q2⟩ := owned k i2 e2
            refine h2 i1 i2 _ _ _ _ (fun e => hjk ?_) q1 q2 a ha hb
            subst e
            exact nodup_slots nd e1 e2
  · have inS : ∀ (j : Nat), ∀ a ∈ (match os[j]? with
        | some (Op.s i) => fps i
        | _ => ([] : List Addr)), a ∈ S := fun j a ha => by
      cases e1 : os[j]? with
      | none => rw [e1] at ha; cases ha
      | some o1 =>
        rw [e1] at ha
        cases o1 with
        | v _ => cases ha
        | s i =>
          obtain ⟨f, o, q1⟩ := owned j i e1
          obtain ⟨_, _, _, q3, _⟩ := h1 i f o q1
          exact (q3 a ha).1
    have kp : Kp S H (fp ++ S) H' := fun a o n e => ⟨fun m => (List.mem_append.mp m).elim (fun m => by rw [hf a m] at e; cases e) n, hk a o (fun j m => n (inS j a m)) e⟩
    have nfp : ∀ (i : Nat) (f : Bool) (o : O), ρ[i]? = some (Sl.own f o) → ∀ a ∈ fps i, a ∉ fp := fun i f o e a ha m => by
      obtain ⟨v, q1, q2, _⟩ := h1 i f o e
      obtain ⟨u, hu⟩ := q2.trk a ha
      rw [hf a m] at hu; cases hu
    have g3up : ∀ (i : Nat) (f : Bool) (o : O), ρ[i]? = some (Sl.own f o) → (∀ a ∈ fps i, a ∈ S ∧ ∀ p ∈ B.fr, p.1 ≠ a) → ∀ a ∈ fps i, a ∈ fp ++ S ∧ ∀ p ∈ pinsOf fp ct ++ B.fr, p.1 ≠ a := fun i f o e q a ha => ⟨List.mem_append_right _ (q a ha).1, fun p hp => (List.mem_append.mp hp).elim (fun hp z => nfp i f o e a ha (z ▸ (mem_pinsOf hp).1)) ((q a ha).2 p)⟩
    have keepO : ∀ (i : Nat) (f : Bool) (o : O), ρ[i]? = some (Sl.own f o) → i ∉ slotsOf os → ∀ a ∈ fps i, H' a = H a := fun i f o e n a ha => by
      obtain ⟨v, q1, q2, _⟩ := h1 i f o e
      obtain ⟨u, hu⟩ := q2.trk a ha
      rw [hu]
      refine hk a u (fun j m => ?_) hu
      (try dsimp only at m)
      cases e1 : os[j]? with
      | none => rw [e1] at m; cases m
      | some o1 =>
        rw [e1] at m
        cases o1 with
        | v _ => cases m
        | s i' =>
          obtain ⟨f', o', q1⟩ := owned j i' e1
          refine h2 i i' _ _ _ _ (fun z => n ?_) e q1 a ha m
          subst z
          exact mem_slotsOf.mpr ⟨j, e1⟩
    refine ⟨kp, { len := by rw [putBack_length, h.len], dat := fun i d e => ?_, own := ⟨fps, fun i f o e => ?_, fun i j f o g o' hij e1 e2 => ?_⟩, keep := fun a o n e => ?_, trk := fun a ha => ?_, sub := fun a ha => List.mem_append_right _ (h.sub a ha), there := h.there, fsub := h.fsub, pin := fun p hp => ?_ }⟩
    · rcases putBack_get os args' ρ i _ nd e with ⟨_, e'⟩ | ⟨_, e' | ⟨j, f, o, o', q1, q2, q3, q4⟩⟩
      · obtain ⟨v, q1, q2⟩ := h.dat i d e'
        exact ⟨v, q1, q2.kp kp⟩
      · cases e'
      · cases q4
    · rcases putBack_get os args' ρ i _ nd e with ⟨n, e'⟩ | ⟨_, e' | ⟨j, f', o1, o', q1, q2, q3, q4⟩⟩
      · obtain ⟨v, q1, q2, q3, q4⟩ := h1 i f o e'
        exact ⟨v, q1, q2.kp kp (keepO i f o e' n), g3up i f o e' q3, q4⟩
      · cases e'
      · cases q4
        obtain ⟨v, r1, r2, r3, r4⟩ := h1 i _ o1 q3
        obtain ⟨v', s1, s2⟩ := ho j _ q2
        obtain ⟨v2, t1, t2⟩ := ops.at q1
        rw [s1] at t1; cases t1
        have t2 : σ[i]? = some (some v') := t2
        rw [r1] at t2; cases t2
        (try dsimp only at s2)
        rw [q1] at s2
        exact ⟨v, r1, s2, g3up i _ o1 q3 r3, r4⟩
    · have own0 : ∀ (i : Nat) (f : Bool) (o : O), (putBack ρ os args')[i]? = some (Sl.own f o) → ∃ f o, ρ[i]? = some (Sl.own f o) := fun i f o e => by
        rcases putBack_get os args' ρ i _ nd e with ⟨n, e'⟩ | ⟨_, e' | ⟨j, f', o1, o', q1, q2, q3, q4⟩⟩
        · exact ⟨_, _, e'⟩
        · cases e'
        · exact ⟨_, _, q3⟩
      obtain ⟨_, _, e1⟩ := own0 i _ _ e1
      obtain ⟨_, _, e2⟩ := own0 j _ _ e2
      exact h2 i j _ _ _ _ hij e1 e2
    · have e0 := h.keep a o n e
      refine hk a o (fun j m => ?_) e0
      (try dsimp only at m)
      cases e1 : os[j]? with
      | none => rw [e1] at m; cases m
      | some o1 =>
        rw [e1] at m
        cases o1 with
        | v _ => cases m
        | s i =>
          obtain ⟨f, o2, q1⟩ := owned j i e1
          obtain ⟨_, _, _, _, q4⟩ := h1 i f o2 q1
          rcases q4 with ⟨_, q4⟩ | ⟨_, _, q4⟩
          · rw [q4 a m] at e; cases e
          · exact n i (q4 ▸ m)
    · rcases List.mem_append.mp ha with ha | ha
      · exact ⟨_, hc a ha⟩
      · obtain ⟨o, e⟩ := h.trk a ha
        exact ht a o e
    · rcases List.mem_append.mp hp with hp | hp
      · obtain ⟨q1, q2⟩ := mem_pinsOf hp
        exact ⟨by rw [q2]; exact hc _ q1, List.mem_append_left _ q1⟩
      obtain ⟨q1, q2⟩ := h.pin p hp
      refine ⟨hk _ _ (fun j m => ?_) q1, List.mem_append_right _ q2⟩
      (try dsimp only at m)
      cases e1 : os[j]? with
      | none => rw [e1] at m; cases m
      | some o1 =>
        rw [e1] at m
        cases o1 with
        | v _ => cases m
        | s i =>
          obtain ⟨f, o, r1⟩ := owned j i e1
          obtain ⟨_, _, _, r3, _⟩ := h1 i f o r1
          exact (r3 _ m).2 p hp rfl
def noUn : List Sl → Bool
  | [] => true
  | .un :: _ => false
  | _ :: r => noUn r
theorem noUn_at : ∀ {l : List Sl}, noUn l = true → ∀ j : Nat, l[j]? ≠ some Sl.un
  | [], _, j, e => by simp at e
  | .un :: _, h, _, _ => by cases h
  | .d x :: r, h, 0, e => by cases e
  | .d x :: r, h, j + 1, e => noUn_at (l := r) h j (by simpa using e)
  | .own f x :: r, h, 0, e => by cases e
  | .own f x :: r, h, j + 1, e => noUn_at (l := r) h j (by simpa using e)
def okArgs (os : List Op) (ρ : Env) : Bool := decide (slotsOf os).Nodup && noUn (os.map (argSl ρ))
def eCall (G : FT) (ta : ETA) : ET := fun ρ p => ta ρ fun os ρ1 => okArgs os ρ1 = true ∧ G (os.map (argSl ρ1)) fun r args' => match r with
  | .d d => p (.v d) (putBack ρ1 os args')
  | .own _ => False
def oCall (G : FT) (ta : ETA) : OT := fun ρ p => ta ρ fun os ρ1 => okArgs os ρ1 = true ∧ G (os.map (argSl ρ1)) fun r args' => match r with
  | .d _ => False
  | .own o => p o (putBack ρ1 os args')
theorem eCall_mo {G : FT} {ta : ETA} (mg : MoF G) (ma : MoA ta) : MoE (eCall G ta) := fun ρ p p' h q => ma _ _ _ (fun os ρ1 q => ⟨q.1, mg _ _ _ (fun r a q => by
  cases r with
  | d d => exact h _ _ q
  | own o => exact q) q.2⟩) q
theorem oCall_mo {G : FT} {ta : ETA} (mg : MoF G) (ma : MoA ta) : MoO (oCall G ta) := fun ρ p p' h q => ma _ _ _ (fun os ρ1 q => ⟨q.1, mg _ _ _ (fun r a q => by
  cases r with
  | d d => exact q
  | own o => exact h _ _ q) q.2⟩) q
section
variable {X : Cx} {B : BI} {ta : ETA} {G : FT}
/-- a call's reading over the heap from the one over data -/
theorem call_of (mg : MoF G) (hA : MoA ta) {E : XK} {σ : L2.St} {H : Hp} {Q : VK} (h : bE B (eCall G ta) σ H Q) : tCall (spF B.K G) [] E (bA B ta) σ H Q := by
  obtain ⟨S, ρ, g, q⟩ := h
  refine ⟨S, ρ, g, hA _ _ _ (fun os ρ1 q xs S1 H1 k1 g1 h1 => ?_) q⟩
  obtain ⟨ok, q⟩ := q
  obtain ⟨o1, o2⟩ := Bool.and_eq_true _ _ ▸ ok
  obtain ⟨fps, at1, back⟩ := g1.call h1 (of_decide_eq_true o1) (noUn_at o2)
  rw [List.append_nil]
  refine ⟨S1, _, fps, g1.trk, at1, mg _ _ _ (fun r a q v H' fp hf hk ht ho hr => ?_) q⟩
  cases r with
  | d d =>
    obtain ⟨rfl, hr⟩ := hr
    obtain ⟨k2, g2⟩ := back H' a [] (fun _ => .lst []) (fun _ z => nomatch z) (fun _ z => nomatch z) hk ht ho
    exact q v S1 H' (k1.trans k2) g2 hr
  | own o => exact q.elim
theorem ocall_of (mg : MoF G) (hA : MoA ta) {E : XK} {σ : L2.St} {H : Hp} {Q : VK} (h : oE B (oCall G ta) σ H Q) : tCall (spF B.K G) [] E (bA B ta) σ H Q := by
  obtain ⟨S, ρ, g, q⟩ := h
  refine ⟨S, ρ, g, hA _ _ _ (fun os ρ1 q xs S1 H1 k1 g1 h1 => ?_) q⟩
  obtain ⟨ok, q⟩ := q
  obtain ⟨o1, o2⟩ := Bool.and_eq_true _ _ ▸ ok
  obtain ⟨fps, at1, back⟩ := g1.call h1 (of_decide_eq_true o1) (noUn_at o2)
  rw [List.append_nil]
  refine ⟨S1, _, fps, g1.trk, at1, mg _ _ _ (fun r a q v H' fp hf hk ht ho hr => ?_) q⟩
  cases r with
  | d d => exact q.elim
  | own o =>
    have w : OwnP B.K (fp ++ S1) H' v o fp := hr
    obtain ⟨k2, g2⟩ := back H' a fp (fun a => (H' a).getD (.lst [])) hf (fun a ha => by obtain ⟨u, hu⟩ := w.trk a ha; rw [hu]; rfl) hk ht ho
    refine q v (fp ++ S1) H' fp _ (k1.trans k2) g2 w (fun a ha => g1.fresh0 (hf a ha)) fun p hp m => ?_
    have := (g1.pin p hp).1
    rw [hf _ m] at this; cases this
end
end DL

/-! DL5: defs that are run where no repr is under way; the end of a law. -/
namespace DL
open PySem PySem.Spec PyProof.Rows L2

/-- as FnOk, but asked only where no repr is under way -/
structure FnG (P : Program) (w : World) (K : PySem.W.Frag) (mg : Str → Option Value) (base : Heap) (CX : CXT) (k : Nat) (f : Addr) (fd : FuncData) (ps : List Str) (sp : Sp) : Prop where
  len : ∀ vs H Q E, sp vs H Q E → vs.length = ps.length
  run : ∀ (A : Around) (outer : List PySem.Env) (s : Shared) (H : Hp) (args : Args) (us : List Value) (vs : List V) (Q : VK) (E : XK),
    Room k A ∧ A.guards = some [] → Env0 P w K mg base A outer s H → BindsTo s fd args (ps.zip us) → Vals vs us → sp vs H Q E → codeAny (model P w) A (.call (.ref f) args) (CR CX outer P w H s Q E) s
theorem FnG.of {P : Program} {w : World} {K : PySem.W.Frag} {mg : Str → Option Value} {base : Heap} {CX : CXT} {k : Nat} {f : Addr} {fd : FuncData} {ps : List Str} {sp : Sp} (F : FnOk P w K mg base CX k f fd ps sp) : FnG P w K mg base CX k f fd ps sp :=
  ⟨F.len, fun A outer s H args us vs Q E hr => F.run A outer s H args us vs Q E hr.1⟩
theorem FnG.mono {P : Program} {w : World} {K : PySem.W.Frag} {mg : Str → Option Value} {base : Heap} {CX : CXT} {j k : Nat} {f : Addr} {fd : FuncData} {ps : List Str} {sp : Sp} (F : FnG P w K mg base CX j f fd ps sp) (h : j ≤ k) : FnG P w K mg base CX k f fd ps sp :=
  ⟨F.len, fun A outer s H args us vs Q E hr => F.run A outer s H args us vs Q E ⟨hr.1.mono h, hr.2⟩⟩
theorem guards_deeper {A : Around} (env : PySem.Env) (h : A.guards = some []) : (A.deeper env).guards = some [] := by
  first
    | exact h
    | (unfold Around.deeper; exact h)
section
variable {X : Cx} {CX : CXT} {k : Nat} {f C : Addr} {fd : FuncData} {ps : List Str} {sp : Sp} {E : XK} {x m : Str} {p pos apos : Pos} {e o : Expr} {es : List Expr} {ta : TE} {t : TA} {dvs : List V} {ds : List Value}
theorem run_fnG {pins : List (Addr × Obj)} {σ : L2.St} {H : Hp} {s : Shared} {Q : VK} {us : List Value} {vs : List V} (F : FnG X.prog X.w X.K X.mg X.base CX k f fd ps sp) (hr : Room k X.A) (hg : X.A.guards = some [])
    (hb : Binds X.K fd ps ds) (hd : Vals dvs ds) (hx : Passes CX X E) (I : Inv X pins σ H s) (r : Vals vs us) (h : sp (vs ++ dvs) H Q E) : wpAny (model X.prog X.w) X.A (call (.ref f) us) (EP X pins σ Q) X.xe s := by
  have rr := r.append hd
  have hl : (us ++ ds).length = ps.length := rr.length.symm.trans (F.len _ _ _ _ h)
  have main := F.run X.A X.stack s H ⟨us, []⟩ _ _ Q E ⟨hr, hg⟩ I.env0 (hb s us I.kIn hl) rr h
  refine wpAny_call (codeAny_mono main fun res s' hq => ?_)
  match res, hq with
  | .error e, hq => exact hx pins σ H s e s' I hq
  | .ok (.ret u), hq => exact I.after hq
  | .ok .next, hq => exact hq.elim
  | .ok .brk, hq => exact hq.elim
  | .ok .cont, hq => exact hq.elim
theorem pe_callG (F : FnG X.prog X.w X.K X.mg X.base CX k f fd ps sp) (hr : Room k X.A) (hgd : X.A.guards = some []) (hg : Gl X x) (hm : X.mg x = some (.ref f)) (hk : PySem.W.keepIn X.K (.ref f) = true) (hb : Binds X.K fd ps ds) (hd : Vals dvs ds) (hx : Passes CX X E)
    (ha : PA X (e :: es) t) (hdb : (x == ("__debug__" : Str)) = false := by decide) (he : starEach (e :: es) X.env = (false, eval e X.env) :: starEach es X.env := by rfl) (hpl : (backTo pos (starEach es X.env)).any (·.1) = false := by rfl) :
    PE X (.Call (.Name x p) (e :: es) [] pos) (tCall sp dvs E t) := ⟨fun pins s σ H Q I h =>
  wpAny_Call_Name_kw (ld_glob I hg hm (PySem.W.callWith_K (h₀ := X.base) I.ok.mod.kin hk (thn (ha.run pos pins s σ H _ I h) fun us s1 ⟨vs, H1, I1, r, q⟩ => ⟨I1.kIn, run_fnG F hr hgd hb hd hx I1 r q⟩) he hpl) hdb)⟩
end
section
variable {P : Program} {w : World} {K : PySem.W.Frag} {mg : Str → Option Value} {base : Heap}
/-- a def by its body, run where no repr is under way -/
theorem fn_ofG {CX : CXT} {x qual : Str} {st : Stmt} {f : Addr} {fd : FuncData} {N ps : List Str} {k : Nat} {sp : Sp} (F : Fun K x qual st f fd) (S : FnScope N ps (defScope st)) (len : ∀ vs H Q E, sp vs H Q E → vs.length = ps.length)
    (hbody : ∀ (cdv : Value) (A : Around) (outer : List PySem.Env) (s : Shared) (H : Hp) (vs : List V) (Q : VK) (E : XK), Room k (A.deeper (envOfC qual (defScope st) s.heap.objs.size f cdv)) → (A.deeper (envOfC qual (defScope st) s.heap.objs.size f cdv)).guards = some [] → sp vs H Q E →
      ∃ t, PSs (cxOf CX P w K mg base N qual (defScope st) f cdv A outer s H E) (defBody st) t ∧ t { nx := fun _ H' => Q .non H', rt := Q } (L2.start N vs) H) : FnG P w K mg base CX (k + 1) f fd ps sp := by
  obtain ⟨oc, od, kV, doc, pm, an, cdv, ct, osl, rfl, lk, hcd⟩ := F.ex
  refine ⟨len, fun A outer s H args us vs Q E hr e0 hb r hsp => ?_⟩
  obtain ⟨hr, hgd⟩ := hr
  have hl := len _ _ _ _ hsp
  have kin : K.In s.heap := e0.mod.kin.keeps fun b o e => (e0.bs b o e).1
  have nolim : s.heap.NoLimit := e0.mod.nolimit.keeps fun b o e => (e0.bs b o e).1
  have kinds : ∀ y ∈ ps.zip us, (defScope st).names.lookup y.1 = some .local ∨ ((defScope st).names.lookup y.1 = some .cell ∧ ((cellsFrom (s.heap.objs.size + 1) (defScope st).names []).lookup y.1).isSome = true) := fun y hy =>
    (S.par y.1 (List.of_mem_zip hy).1).imp id fun q => ⟨q, PySem.W.cellsFrom_some _ _ _ (.inl q)⟩
  refine codeAny_call_function hr.depth (kin _ _ lk) rfl S.co S.gen rfl (PySem.W.codeRec_of kin hcd) (hb _ _ _ _ ?_)
  refine wpAny_newFunctionEnv_cells S.kind kinds fun env he s1 inC => ?_
  subst he
  refine ⟨nolim.keeps inC.toInCall.keep, codeAny_func ?_⟩
  obtain ⟨t, ht, hq⟩ := hbody cdv A outer s H vs Q E (hr.deeper _) (guards_deeper _ hgd) hsp
  have I0 : Inv (cxOf CX P w K mg base N qual (defScope st) f cdv A outer s H E) [] (L2.start N vs) H s1 := inv_start S hr.hd e0 hl r inC
  refine wpAny_mono (ht.run [] s1 (L2.start N vs) H _ I0 hq) (fun fl s' hs => ?_) fun e s' hs => hs
  match fl, hs with
  | .ret u, ⟨v, _, H', J, rv, q⟩ => exact ⟨v, H', J.os, J.bare, J.base, J.hok, rv, q⟩
  | .next, ⟨_, H', J, q⟩ => exact ⟨V.non, H', J.os, J.bare, J.base, J.hok, rfl, q⟩
  | .brk, ⟨_, _, _, q⟩ => exact q.elim
  | .cont, ⟨_, _, _, q⟩ => exact q.elim
/-- the data layer's rule for such a def -/
theorem fn_okG {x qual : Str} {st : Stmt} {f : Addr} {fd : FuncData} {N ps : List Str} {k : Nat} {t : STy} (F : Fun K x qual st f fd) (Sc : FnScope N ps (defScope st))
    (hbody : ∀ (cdv : Value) (A : Around) (outer : List PySem.Env) (s : Shared) (H : Hp) (E : XK) (B : BI), B.K = K → Room k (A.deeper (envOfC qual (defScope st) s.heap.objs.size f cdv)) → (A.deeper (envOfC qual (defScope st) s.heap.objs.size f cdv)).guards = some [] →
      DSs (cxOf CX0 P w K mg base N qual (defScope st) f cdv A outer s H E).nox B (defBody st) t) : FnG P w K mg base CX0 (k + 1) f fd ps (spF K (fnW ps.length N.length t)) := by
  refine fn_ofG F Sc (fun vs H Q E h => ?_) (fun cdv A outer s H vs Q E hr hgd h => ?_)
  · obtain ⟨S, args, fps, _, h, q⟩ := h
    rw [h.len]; exact q.1
  · obtain ⟨S, args, fps, tr, h, hl, q⟩ := h
    have b := hbody cdv A outer s H E { K := K, H0 := H, vs0 := vs, fps0 := fps, SC := S, fr := [] } rfl hr hgd
    refine ⟨_, b.pss.nox, S, _, _, fn_start (N := N) tr h, fn_link (n := ps.length), ?_⟩
    rw [hl]; exact q
end

/-! ### calls over data -/
section
variable {X : Cx} {B : BI} {k : Nat} {f : Addr} {fd : FuncData} {ps : List Str} {x : Str} {p pos : Pos} {e : Expr} {es : List Expr} {ta : ETA} {G : FT}
theorem d_call (hK : B.K = X.K) (mg : MoF G) (F : FnOk X.prog X.w X.K X.mg X.base CX0 k f fd ps (spF X.K G)) (hr : Room k X.A) (hg : Gl X x) (hm : X.mg x = some (.ref f)) (hk : PySem.W.keepIn X.K (.ref f) = true) (hb : Binds X.K fd ps []) (ha : DA X B (e :: es) ta)
    (hdb : (x == ("__debug__" : Str)) = false := by decide) (he : starEach (e :: es) X.env = (false, eval e X.env) :: starEach es X.env := by rfl) (hpl : (backTo pos (starEach es X.env)).any (·.1) = false := by rfl) : DE X B (.Call (.Name x p) (e :: es) [] pos) (eCall G ta) :=
  ⟨peOf (pe_call F hr hg hm hk hb .nil pass0 ha.pa hdb he hpl) fun σ H Q q => by rw [← hK]; exact call_of mg ha.mo q, eCall_mo mg ha.mo⟩
theorem d_callG (hK : B.K = X.K) (mg : MoF G) (F : FnG X.prog X.w X.K X.mg X.base CX0 k f fd ps (spF X.K G)) (hr : Room k X.A) (hgd : X.A.guards = some []) (hg : Gl X x) (hm : X.mg x = some (.ref f)) (hk : PySem.W.keepIn X.K (.ref f) = true) (hb : Binds X.K fd ps []) (ha : DA X B (e :: es) ta)
    (hdb : (x == ("__debug__" : Str)) = false := by decide) (he : starEach (e :: es) X.env = (false, eval e X.env) :: starEach es X.env := by rfl) (hpl : (backTo pos (starEach es X.env)).any (·.1) = false := by rfl) : DE X B (.Call (.Name x p) (e :: es) [] pos) (eCall G ta) :=
  ⟨peOf (pe_callG F hr hgd hg hm hk hb .nil pass0 ha.pa hdb he hpl) fun σ H Q q => by rw [← hK]; exact call_of mg ha.mo q, eCall_mo mg ha.mo⟩
theorem do_call (hK : B.K = X.K) (mg : MoF G) (F : FnOk X.prog X.w X.K X.mg X.base CX0 k f fd ps (spF X.K G)) (hr : Room k X.A) (hg : Gl X x) (hm : X.mg x = some (.ref f)) (hk : PySem.W.keepIn X.K (.ref f) = true) (hb : Binds X.K fd ps []) (ha : DA X B (e :: es) ta)
    (hdb : (x == ("__debug__" : Str)) = false := by decide) (he : starEach (e :: es) X.env = (false, eval e X.env) :: starEach es X.env := by rfl) (hpl : (backTo pos (starEach es X.env)).any (·.1) = false := by rfl) : DO X B (.Call (.Name x p) (e :: es) [] pos) (oCall G ta) :=
  ⟨peOf (pe_call F hr hg hm hk hb .nil pass0 ha.pa hdb he hpl) fun σ H Q q => by rw [← hK]; exact ocall_of mg ha.mo q, oCall_mo mg ha.mo⟩
end

/-! ### the end of a law -/
/-- the heap that knows of the script alone -/
def scrH (K : PySem.W.Frag) (a : Addr) (o : Obj) (ns : List Int) : Hp := fun b => if b = a ∧ K.lookup a = none then some (.frz o (.lst (ns.map V.int))) else none
theorem law_end {P : Program} {w : World} {K : PySem.W.Frag} {mg mb : Str → Option Value} {k : Nat} {fa a : Addr} {fd : FuncData} {x : Str} {G : FT} {s₁ : Shared} {vs : List Value} {ns : List Int}
    (KX : K.In s₁.heap) (hns : s₁.heap.Ns mainGlobals mg) (hb : s₁.heap.Ns builtinsNs mb) (hbb : ∀ x : Str, x ≠ "__name__" → mb x = bootBuiltins x) (hlim : s₁.heap.NoLimit) (hg : s₁.gens = #[])
    (ha : s₁.heap.get? a = some { cls := .type "list", data := .seq vs.toArray }) (hi : IntsAre vs ns) (hl : ns.length ≤ sizeLine) (hr : Room k callerA) (mG : MoF G)
    (F : ∀ base : Heap, K.In base → base.Ns mainGlobals mg → FnG P w K mg base CX0 k fa fd [x] (spF K G)) (hbind : ∀ (s : Shared) (u : Value), BindsTo s fd ⟨[u], []⟩ [(x, u)])
    (hG : G [.d (.list (ns.map PyData.int))] fun r _ => r = .d (.bool true)) :
    codeAny (model P w) callerA (.call (.ref fa) ⟨[.ref a], []⟩) (fun r s' => r = .ok (.ret (.bool true)) ∧ OldK s₁.heap s'.heap ∧ s'.os = s₁.os ∧ AllBare s'.gens) s₁ := by
  have rv := vals_ints hi
  have nsl := hi.length
  generalize ho : ({ cls := .type "list", data := .seq vs.toArray } : Obj) = o at ha
  have hH : ∀ b u, scrH K a o ns b = some u → b = a ∧ K.lookup a = none ∧ u = .frz o (.lst (ns.map V.int)) := fun b u e => by
    unfold scrH at e
    split at e
    · rename_i c; cases e; exact ⟨c.1, c.2, rfl⟩
    · cases e
  have hok : HOk P w (scrH K a o ns) s₁.heap := fun b u e => by
    obtain ⟨rfl, _, rfl⟩ := hH b u e
    refine ⟨ha, by rw [List.length_map]; exact hl, vs, _, rv, by rw [ha, ← ho]⟩
  have seqA : (a ∉ ([] : List Addr) ∧ Rd (scrH K a o ns) a (.lst (ns.map V.int))) ∨ KL K a (ns.map V.int) := by
    cases q : K.lookup a with
    | none => exact .inl ⟨by simp, .inr ⟨o, if_pos ⟨rfl, q⟩⟩⟩
    | some u =>
      have := KX a u q
      rw [ha] at this
      cases this
      refine .inr ⟨vs.toArray, 0, by rw [q, ← ho], ?_, by simpa using rv⟩
      rw [List.size_toArray, nsl]; exact hl
  have under : ∀ b u, s₁.heap.get? b = some u → b ≠ a ∨ K.lookup a ≠ none → (hidT s₁.heap (scrH K a o ns)).get? b = some u := fun b u e c => hidT_get e (by
    cases q : scrH K a o ns b with
    | none => rfl
    | some z =>
      obtain ⟨e1, e2, _⟩ := hH b z q
      rcases c with c | c
      · exact absurd e1 c
      · exact absurd e2 c)
  have nsUp : ∀ {b : Addr} {m : Str → Option Value}, s₁.heap.Ns b m → (hidT s₁.heap (scrH K a o ns)).Ns b m := fun {b m} ⟨u, es, ep, e, d, r⟩ => ⟨u, es, ep, under b u e (.inl fun z => by
    rw [z, ha] at e
    cases e
    rw [← ho] at d
    cases d), d, r⟩
  have kUp : K.In (hidT s₁.heap (scrH K a o ns)) := fun b u e => under b u (KX b u e) (by
    by_cases c : b = a
    · exact .inr (by rw [← c, e]; simp)
    · exact .inl c)
  have md : Mod K mg (hidT s₁.heap (scrH K a o ns)) := ⟨kUp, nsUp hns, ⟨mb, nsUp hb, hbb⟩, let ⟨mc, h1, h2⟩ := hlim; ⟨mc, nsUp h1, h2⟩⟩
  have e0 : Env0 P w K mg (hidT s₁.heap (scrH K a o ns)) callerA [] s₁ (scrH K a o ns) :=
    ⟨rfl, md, fun b u e => of_hidT e, Nat.le_of_eq (hidT_size _ _), trivial, (fun b hb => by cases hb), hok, .of_eq hg⟩
  have prom : spF K G [.ref a] (scrH K a o ns) (fun v _ => v = .bl true) fun _ _ _ => False := by
    refine ⟨[], [.d (.list (ns.map PyData.int))], fun _ => [], (fun _ h => by cases h), ⟨rfl, fun i v sl e1 e2 => ?_, fun _ _ => rfl, fun _ _ _ _ h => by cases h⟩, mG _ _ _ (fun r args' e v H' fp _ _ _ _ hr => ?_) hG⟩
    · cases i with
      | zero => cases e1; cases e2; exact ⟨.lst seqA (RA.ints ns) (by rw [List.length_map]; exact hl), rfl⟩
      | succ i => cases e1
    · subst e
      obtain ⟨_, hr⟩ := hr
      cases hr
      rfl
  refine codeAny_mono ((F _ kUp (nsUp hns)).run callerA [] s₁ _ ⟨[.ref a], []⟩ [.ref a] [.ref a] _ _ ⟨hr, rfl⟩ e0 (hbind s₁ (.ref a)) (.cons rfl .nil) prom) fun r s' h => ?_
  match r, h with
  | .ok (.ret u), ⟨v, H', os, bare, un, hok', r', q⟩ =>
    obtain rfl : v = .bl true := q
    obtain rfl : u = Value.bool true := r'
    refine ⟨rfl, OldK.of_keep fun b u e => ?_, os, bare⟩
    cases q : scrH K a o ns b with
    | none => exact un.keep b u e q (by intro z; cases z) (by intro z; cases z)
    | some z =>
      obtain ⟨rfl, _, rfl⟩ := hH b z q
      obtain ⟨e2, _⟩ := hok' b _ (un.frzs b o _ q)
      rw [ha] at e; cases e
      exact e2
  | .error _, h => exact h.elim
  | .ok .next, h => exact h.elim
  | .ok .brk, h => exact h.elim
  | .ok .cont, h => exact h.elim
/-- THE END: what k_head leaves, from the law's reading -/
theorem walk_end {l : PySem.W.OpenLaw} {n k : Nat} {q : Program} {loose : List Str} {XP : (Str → Option Value) → Heap → Prop} {YP : World → Heap → Prop} {d : DefRec} {K : Params → PySem.W.Frag} {G : FT} {x : Str}
    (hn : l.most = some n) (hn2 : n ≤ sizeLine) (hdf : d.params.defaults = []) (hr : Room k callerA) (mG : MoF G) (hY : ∀ (w : World) (h : Heap), YP w h → (K w.params).In h)
    (F : ∀ (w : World) (mg : Str → Option Value) (fa : Addr) (h : Heap), (K w.params).In h → h.Ns mainGlobals mg → mg d.name = some (.ref fa) → ∃ fd : FuncData, (∀ (s : Shared) (u : Value), BindsTo s fd ⟨[u], []⟩ [(x, u)]) ∧
        ∀ base : Heap, (K w.params).In base → base.Ns mainGlobals mg → FnG l.prog w (K w.params) mg base CX0 k fa fd [x] (spF (K w.params) G))
    (hG : ∀ ns : List Int, ns.length ≤ n → G [.d (.list (ns.map PyData.int))] fun r _ => r = .d (.bool true)) : PySem.W.WalkO q loose XP YP l.row.toRowW d [] (fun f vs => PySem.call f vs) :=
  Att.attach_call hn hdf fun w s₀ s₁ mg mb fa o pm cd doc a vs ns Gr Y ho hd hcd hmg hobj hints hlen hgn => by
    obtain ⟨fd, hb, hF⟩ := F w mg fa _ (hY w _ Y) Gr.T.g hmg
    exact law_end (hY w _ Y) Gr.T.g Gr.T.b Gr.T.builtins Gr.T.nolimit hgn hobj hints (Nat.le_trans hlen hn2) hr mG hF hb (hG ns hlen)
end DL

/-! DL6: operators over data. -/
namespace DL
open PySem PySem.Spec PyProof.Rows L2

/-! ### ints, texts, lists, tuples: + - * // % -/
def wAdd : W2
  | .int a, .int b, q => q (.int (a + b))
  | .str a, .str b, q => a.length + b.length ≤ sizeLine ∧ q (.str (a ++ b))
  | .tuple a, .tuple b, q => a.length + b.length ≤ sizeLine ∧ q (.tuple (a ++ b))
  | .list a, .list b, q => a.length + b.length ≤ sizeLine ∧ q (.list (a ++ b))
  | _, _, _ => False
def wSub : W2
  | .int a, .int b, q => q (.int (a - b))
  | .bool a, .bool b, q => q (.int ((if a = true then 1 else 0) - (if b = true then 1 else 0)))
  | _, _, _ => False
/-- a product that is small enough to be told -/
def mulOk (i j : Int) : Prop := CMul i j ∨ CMulW i j
def wMul : W2
  | .int a, .int b, q => mulOk a b ∧ q (.int (a * b))
  | .list a, .int k, q => (-(2 ^ 63) ≤ k ∧ k < 2 ^ 63 ∧ a.length * k.toNat ≤ sizeLine) ∧ q (.list (List.replicate k.toNat a).flatten)
  | .tuple a, .int k, q => (k = 1 ∨ (a ≠ [] ∧ 2 ≤ k ∧ k ≤ 1000 ∧ a.length ≤ 1000)) ∧ q (.tuple (List.replicate k.toNat a).flatten)
  | _, _, _ => False
def divOk (i j : Int) : Prop := CDivN i j ∨ CDivW i j
def wFdiv : W2
  | .int a, .int b, q => divOk a b ∧ q (.int (a.fdiv b))
  | _, _, _ => False
def wMod : W2
  | .int a, .int b, q => b ≠ 0 ∧ q (.int (a.fmod b))
  | _, _, _ => False
def wNeg : W1
  | .int a, q => q (.int (-a))
  | _, _ => False
theorem wAdd_mo : Mo2 wAdd := fun d e p p' h q => by
  unfold wAdd at *; split at q <;> first | exact h _ q | exact ⟨q.1, h _ q.2⟩ | exact q
theorem wSub_mo : Mo2 wSub := fun d e p p' h q => by
  unfold wSub at *; split at q <;> first | exact h _ q | exact ⟨q.1, h _ q.2⟩ | exact q
theorem wMul_mo : Mo2 wMul := fun d e p p' h q => by
  unfold wMul at *; split at q <;> first | exact h _ q | exact ⟨q.1, h _ q.2⟩ | exact q
theorem wFdiv_mo : Mo2 wFdiv := fun d e p p' h q => by
  unfold wFdiv at *; split at q <;> first | exact h _ q | exact ⟨q.1, h _ q.2⟩ | exact q
theorem wMod_mo : Mo2 wMod := fun d e p p' h q => by
  unfold wMod at *; split at q <;> first | exact h _ q | exact ⟨q.1, h _ q.2⟩ | exact q
theorem wNeg_mo : Mo1 wNeg := fun d p p' h q => by
  unfold wNeg at *; split at q <;> first | exact h _ q | exact ⟨q.1, h _ q.2⟩ | exact q
section
variable {X : Cx}
/-- list + list: both are read -/
def rCatX (K : PySem.W.Frag) : R2 := fun x y H Q => ∃ l b xs zs, x = .ref l ∧ y = .ref b ∧ LX K H l xs ∧ LX K H b zs ∧ xs.length + zs.length ≤ sizeLine ∧ ∀ p, H p = none → Q (.ref p) (upd H p (.lst (xs ++ zs)))
theorem op_catX : OpR X (binaryOp .Add) (rCatX X.K) := by
  intro pins s σ H x y v u Q I rx ry h
  obtain ⟨l, b, xs, zs, rfl, rfl, hl, hb, hz, q⟩ := h
  cases rx; cases ry
  obtain ⟨_, its, n, r, e⟩ := lx_inv I hl
  obtain ⟨_, its2, n2, r2, e2⟩ := lx_inv I hb
  have l1 := r.length
  have l2 := r2.length
  refine PySem.P.add_list e e2 ?_ (by rw [List.size_toArray, List.size_toArray]; omega)
  rw [show its.toArray ++ its2.toArray = (its ++ its2).toArray by simp]
  exact ⟨.ref _, _, I.lnew (t' := s.toks) (r.append r2) (by rw [List.length_append]; omega), rfl, q _ I.fresh⟩
def rRepX (K : PySem.W.Frag) : R2 := fun x y H Q => ∃ l k xs, x = .ref l ∧ y = .int k ∧ LX K H l xs ∧ -(2 ^ 63) ≤ k ∧ k < 2 ^ 63 ∧ xs.length * k.toNat ≤ sizeLine ∧
  ∀ p, H p = none → Q (.ref p) (upd H p (.lst (List.replicate k.toNat xs).flatten))
theorem op_repX : OpR X (binaryOp .Mult) (rRepX X.K) := by
  intro pins s σ H x y v u Q I rx ry h
  obtain ⟨l, k, xs, rfl, rfl, hl, h1, h2, hz, q⟩ := h
  cases rx
  obtain ⟨t, rfl⟩ := ry
  obtain ⟨_, its, n, r, e⟩ := lx_inv I hl
  have l1 := r.length
  have small : its.toArray.size * k.toNat ≤ sizeLine := by rw [List.size_toArray, ← l1]; exact hz
  have cap : ¬ its.toArray.size * k.toNat > (2 ^ 63 - 1) / 8 := by
    have : (sizeLine : Nat) ≤ (2 ^ 63 - 1) / 8 := by decide
    omega
  have fit : ¬ (!Builtin.List.listFitsIndex k) = true := by rw [fitsIndex_both h1 h2]; exact Bool.false_ne_true
  have long : ¬ Builtin.List.listTooLong (its.toArray.size * k.toNat) = true := by rw [notLongL small]; exact Bool.false_ne_true
  have flat : ∀ m : Nat, List.foldl (fun x1 x2 => x1 ++ x2) #[] (List.replicate m its.toArray) = (List.replicate m its).flatten.toArray := fun m => by
    have := foldl_rep its m []
    rw [List.nil_append] at this
    exact this
  have made : List.foldl (fun x1 x2 => x1 ++ x2) #[] (List.replicate (if its.toArray.isEmpty = true then 0 else k.toNat) its.toArray) = (List.replicate k.toNat its).flatten.toArray := by
    rw [flat]
    cases its with
    | nil => simp
    | cons a r' => rw [if_neg (by simp)]
  have fin : EP X pins σ Q (.ref s.heap.objs.size) { s with heap := s.heap.push { cls := .type "list", data := .seq (List.replicate k.toNat its).flatten.toArray } } :=
    ⟨.ref _, _, I.lnew (t' := s.toks) (r.rep k.toNat) (by rw [PyProof.Rows.lm_len_rep_flat, Nat.mul_comm]; exact hz), rfl, q _ I.fresh⟩
  rw [← made] at fin
  exact wpAny_binaryOp_repeat_ref (T := "list") (U := "int") (by decide) ⟨_, e, rfl⟩ (fun s' => typeIs_int s' k t) noFill_list_mul F.fills_int_mul F.slot_int_rmul repeat_list F.slot_int_index.lookup
    (call_meets F.slot_int_rmul (typeIs_int s k t) F.entry_int_rmul (F.args_int_rmul_2 _ _) (int___rmul___int_list k t l its.toArray n)
      ⟨e, rfl, ⟨_, e, rfl⟩, call_meets F.slot_list_mul ⟨_, e, rfl⟩ F.entry_list_mul (F.args_list_mul_2 _ _) (AutoListH.list___mul___list_int_3 l its.toArray n k t fit cap long) ⟨e, fin⟩⟩)
/-- a tuple taken twice and more: new, tracked with its object -/
def rRepF (K : PySem.W.Frag) : R2 := fun x y H Q => ∃ l k xs, x = .ref l ∧ y = .int k ∧ SqT K H l xs ∧ (xs ≠ [] ∧ 2 ≤ k ∧ k ≤ 1000 ∧ xs.length ≤ 1000) ∧ NewT H (List.replicate k.toNat xs).flatten Q
theorem op_repF : OpR X (binaryOp .Mult) (rRepF X.K) := by
  intro pins s σ H x y v u Q I rx ry h
  obtain ⟨l, k, xs, e1, e2, hT, ⟨ne, k2, k3, zx⟩, q⟩ := h
  subst e1
  subst e2
  cases rx
  obtain ⟨t, rfl⟩ := ry
  obtain ⟨its, r, ⟨ob, ho, hcls, n, hdat⟩, _⟩ := I.tuple hT
  obtain ⟨cls, dd, data, sl⟩ := ob
  have hcls : cls = _ := hcls
  have hdat : data = _ := hdat
  subst hcls
  subst hdat
  have l1 : its.length = xs.length := r.length.symm
  have full : its.toArray.isEmpty = false := by
    cases its with
    | nil => exact absurd (List.eq_nil_of_length_eq_zero l1.symm) ne
    | cons => rfl
  have cell : its.toArray.size = xs.length := by rw [List.size_toArray]; exact l1
  have prod : ((its.toArray.size : Nat) : Int) * k ≤ 1000000 := by
    rw [cell]
    have : ((xs.length : Nat) : Int) * k ≤ 1000 * k := Int.mul_le_mul_of_nonneg_right (by omega) (by omega)
    omega
  have lenX : (List.replicate k.toNat xs).flatten.length ≤ sizeLine := by
    rw [PyProof.Rows.lm_len_rep_flat]
    exact Nat.le_trans (Nat.mul_le_mul (by omega : k.toNat ≤ 1000) zx) (by rw [sizeLine_eq]; omega)
  have lenI : (List.replicate k.toNat its).flatten.length ≤ sizeLine := by
    rw [PyProof.Rows.lm_len_rep_flat] at lenX ⊢
    rw [l1]; exact lenX
  refine wpAny_binaryOp_repeat_ref (T := "tuple") (U := "int") (by decide) ⟨_, ho, rfl⟩ (fun s' => typeIs_int s' k t) noFill_tuple_mul F.fills_int_mul F.slot_int_rmul repeat_tuple F.slot_int_index.lookup ?_
  refine call_meets F.slot_int_rmul (typeIs_int s k t) F.entry_int_rmul (F.args_int_rmul_2 _ _) (int_rmul_tuple k t l its.toArray n dd sl) ⟨ho, rfl, ⟨_, ho, rfl⟩, ?_⟩
  refine call_meets F.slot_tuple_mul ⟨_, ho, rfl⟩ F.entry_tuple_mul (F.args_tuple_mul_2 _ _) (tuple_mulW l its.toArray n dd sl k t ?_ ?_ ?_ (by omega) ?_ (by rw [size_rep, List.size_toArray]; exact lenI)) ⟨ho, ?_⟩
  · rw [decide_eq_false (by omega), decide_eq_false (by omega)] <;> rfl
  · rw [full, Bool.false_or]; exact beq_eq_false_iff_ne.mpr (by omega)
  · rw [full, Bool.or_false]; exact decide_eq_false (by omega)
  · unfold Builtin.Tuple.tupleTooMany
    rw [sizeLine_eq]; exact decide_eq_false (by omega)
  · rw [size_rep]
    exact new_tup (s := s) (h' := s.heap) (tk := s.toks) I (r.rep k.toNat) lenX q
theorem mul_one_tup (l : Addr) (items : Array Value) (n : Nat) (dd : Option Addr) (sl : Array (Option Value)) (u : Tok) :
    Meets (Builtin.«tuple.__mul__» ⟨[.ref l, .int 1 u], []⟩) (fun _ R s => s.heap.get? l = some { cls := .type "tuple", dict := dd, data := .seq items n, slots := sl } ∧ R (.ok (.ret (Value.ref l))) s) :=
  .of_wp fun prog w A R s h => by
    obtain ⟨hp, g, d, tk, os⟩ := s
    obtain ⟨hl, h⟩ := h
    have f1 := AutoSeq1.idx_int
    wp_walk using wpAny_loadPart' hl
    exact ⟨_, rfl, h⟩
def rRep1 (K : PySem.W.Frag) : R2 := fun x y H Q => ∃ l xs, x = .ref l ∧ y = .int 1 ∧ SqT K H l xs ∧ Q (.ref l) H
theorem op_rep1 : OpR X (binaryOp .Mult) (rRep1 X.K) := by
  intro pins s σ H x y v u Q I rx ry h
  obtain ⟨l, xs, e1, e2, hT, q⟩ := h
  subst e1
  subst e2
  cases rx
  obtain ⟨t, rfl⟩ := ry
  obtain ⟨its, r, ⟨ob, ho, hcls, n, hdat⟩, _⟩ := I.tuple hT
  obtain ⟨cls, dd, data, sl⟩ := ob
  have hcls : cls = _ := hcls
  have hdat : data = _ := hdat
  subst hcls
  subst hdat
  refine wpAny_binaryOp_repeat_ref (T := "tuple") (U := "int") (by decide) ⟨_, ho, rfl⟩ (fun s' => typeIs_int s' 1 t) noFill_tuple_mul F.fills_int_mul F.slot_int_rmul repeat_tuple F.slot_int_index.lookup ?_
  refine call_meets F.slot_int_rmul (typeIs_int s 1 t) F.entry_int_rmul (F.args_int_rmul_2 _ _) (int_rmul_tuple 1 t l its.toArray n dd sl) ⟨ho, rfl, ⟨_, ho, rfl⟩, ?_⟩
  exact call_meets F.slot_tuple_mul ⟨_, ho, rfl⟩ F.entry_tuple_mul (F.args_tuple_mul_2 _ _) (mul_one_tup l its.toArray n dd sl t) ⟨ho, ⟨.ref l, H, I, rfl, q⟩⟩
/-- bool - bool -/
def rSubX : R2 := fun x y H Q => rI0 (fun i j => .int (i - j)) x y H Q ∨ ∃ a b, x = .bl a ∧ y = .bl b ∧ Q (.int ((if a = true then 1 else 0) - (if b = true then 1 else 0))) H
theorem op_subX : OpR X (binaryOp .Sub) rSubX := OpR.or op_sub (by
  intro pins s σ H x y v u Q I rx ry h
  obtain ⟨a, b, e1, e2, q⟩ := h
  subst e1
  subst e2
  cases rx
  cases ry
  exact sub_bool ⟨.int _, H, I.tok _, ⟨_, rfl⟩, q⟩)
def rAddX (K : PySem.W.Frag) : R2 := fun x y H Q => (∃ i j, x = .int i ∧ y = .int j ∧ Q (.int (i + j)) H) ∨ (∃ i j, x = .str i ∧ y = .str j ∧ i.length + j.length ≤ sizeLine ∧ Q (.str (i ++ j)) H) ∨ rCatF K x y H Q ∨ rCatX K x y H Q
theorem op_addX : OpR X (binaryOp .Add) (rAddX X.K) := OpR.or op_add (OpR.or op_add_str (OpR.or op_catF op_catX))
theorem sv_add {K : PySem.W.Frag} : Sv2 K (rAddX K) wAdd := fun S H x y d e Q tr rx ry h => by
  unfold wAdd at h
  split at h
  · cases rx; cases ry
    exact .inl ⟨_, _, rfl, rfl, h _ H (Same.refl H) (.int _)⟩
  · cases rx; cases ry
    exact .inr (.inl ⟨_, _, rfl, rfl, h.1, h.2 _ H (Same.refl H) (.str _)⟩)
  · cases rx with
    | tup hx rx lx =>
      cases ry with
      | tup hy ry ly =>
        have l1 := rx.length
        have l2 := ry.length
        refine .inr (.inr (.inl ⟨_, _, _, _, rfl, rfl, tq hx, tq hy, by omega, fun e => ?_, fun n e => ?_, fun n m p o hp hd => ?_⟩))
        · subst e
          cases rx
          exact h.2 _ H (Same.refl H) (R.tup hy ry ly)
        · subst e
          cases ry
          refine h.2 _ H (Same.refl H) ?_
          rw [List.append_nil]
          exact R.tup hx rx lx
        · exact h.2 _ _ (same_new hp) (R.tup (.inl ⟨notS tr hp, NewT.at hd⟩) ((rx.append ry).kp (Kp.same (same_new hp))) (by rw [List.length_append]; exact h.1))
  · cases rx with
    | lst hx rx lx =>
      cases ry with
      | lst hy ry ly =>
        have l1 := rx.length
        have l2 := ry.length
        exact .inr (.inr (.inr ⟨_, _, _, _, rfl, rfl, hx, hy, by omega, fun p hp => h.2 _ _ (same_new hp) (R.lst (.inl ⟨notS tr hp, .inl upd_same⟩) ((rx.append ry).kp (Kp.same (same_new hp))) (by rw [List.length_append]; exact h.1))⟩))
  · exact h.elim
end
end DL

/-! DL7: rules for the constructs, one by one. -/
namespace DL
open PySem PySem.Spec PyProof.Rows L2
section
variable {K : PySem.W.Frag}
theorem sv_sub : Sv2 K rSubX wSub := fun S H x y d e Q tr rx ry h => by
  unfold wSub at h
  split at h
  · cases rx; cases ry; exact .inl ⟨_, _, rfl, rfl, h _ H (Same.refl H) (.int _)⟩
  · cases rx; cases ry; exact .inr ⟨_, _, rfl, rfl, h _ H (Same.refl H) (.int _)⟩
  · exact h.elim
def rMulX (K : PySem.W.Frag) : R2 := fun x y H Q => rI CMul (fun i j => .int (i * j)) x y H Q ∨ rI CMulW (fun i j => .int (i * j)) x y H Q ∨ rRepX K x y H Q ∨ rRepF K x y H Q ∨ rRep1 K x y H Q
theorem sv_mul : Sv2 K (rMulX K) wMul := fun S H x y d e Q tr rx ry h => by
  unfold wMul at h
  split at h
  · cases rx; cases ry
    rcases h.1 with c | c
    · exact .inl ⟨_, _, rfl, rfl, c, h.2 _ H (Same.refl H) (.int _)⟩
    · exact .inr (.inl ⟨_, _, rfl, rfl, c, h.2 _ H (Same.refl H) (.int _)⟩)
  · cases ry
    cases rx with
    | lst hx rx lx =>
      have l1 := rx.length
      refine .inr (.inr (.inl ⟨_, _, _, rfl, rfl, hx, h.1.1, h.1.2.1, by rw [l1]; exact h.1.2.2, fun p hp => h.2 _ _ (same_new hp) (R.lst (.inl ⟨notS tr hp, .inl upd_same⟩) ((rx.rep _).kp (Kp.same (same_new hp))) (by rw [PyProof.Rows.lm_len_rep_flat, Nat.mul_comm]; exact h.1.2.2))⟩))
  · cases ry
    cases rx with
    | tup hx rx lx =>
      have l1 := rx.length
      obtain ⟨k1 | ⟨ne, k2, k3, zx⟩, h⟩ := h
      · subst k1
        refine .inr (.inr (.inr (.inr ⟨_, _, rfl, rfl, tq hx, h _ H (Same.refl H) ?_⟩)))
        rw [show (1 : Int).toNat = 1 from rfl, List.replicate_succ, List.replicate_zero, List.flatten_cons, List.flatten_nil, List.append_nil]
        exact R.tup hx rx lx
      refine .inr (.inr (.inr (.inl ⟨_, _, _, rfl, rfl, tq hx, ⟨fun e => by subst e; cases rx; exact ne rfl, k2, k3, by rw [l1]; exact zx⟩, fun p o hp hd => h _ _ (same_new hp) (R.tup (.inl ⟨notS tr hp, NewT.at hd⟩) ((rx.rep _).kp (Kp.same (same_new hp))) ?_)⟩)))
      rw [PyProof.Rows.lm_len_rep_flat]
      have k4 := Int.toNat_le.mpr (show _ ≤ ((1000 : Nat) : Int) from k3)
      refine Nat.le_trans (Nat.mul_le_mul k4 zx) (sizeLine_eq ▸ by decide)
  · exact h.elim
def rDivX : R2 := fun x y H Q => rI CDivN (fun i j => .int (i.fdiv j)) x y H Q ∨ rI CDivW (fun i j => .int (i / j)) x y H Q
theorem sv_fdiv : Sv2 K rDivX wFdiv := fun S H x y d e Q tr rx ry h => by
  unfold wFdiv at h
  split at h
  · rename_i a b
    cases rx; cases ry
    rcases h.1 with c | c
    · exact .inl ⟨_, _, rfl, rfl, c, h.2 _ H (Same.refl H) (.int _)⟩
    · refine .inr ⟨_, _, rfl, rfl, c, ?_⟩
      have c1 : (0 : Int) < b := c.1
      have := h.2 (.int (a.fdiv b)) H (Same.refl H) (.int _)
      rw [Int.fdiv_eq_ediv_of_nonneg a (by omega)] at this
      exact this
  · exact h.elim
theorem sv_mod : Sv2 K (rI (fun _ j => j ≠ 0) fun i j => .int (i.fmod j)) wMod := fun S H x y d e Q tr rx ry h => by
  unfold wMod at h
  split at h
  · cases rx; cases ry; exact ⟨_, _, rfl, rfl, h.1, h.2 _ H (Same.refl H) (.int _)⟩
  · exact h.elim
theorem sv_neg : Sv1 K (rU fun i => .int (-i)) wNeg := fun S H x d Q tr rx h => by
  unfold wNeg at h
  split at h
  · cases rx; exact ⟨_, rfl, h _ H (Same.refl H) (.int _)⟩
  · exact h.elim

/-! ### comparisons -/
/-- data whose == is served -/
def eqOk (d : D) : Prop := SeqAt.shaped d = true
def wEq : W2
  | .str a, .str b, q => q (.bool (decide (a = b)))
  | .int a, .int b, q => q (.bool (decide (a = b)))
  | d, e, q => eqOk d ∧ eqOk e ∧ q (.bool (PyData.eqv d e))
def wNe : W2
  | .str a, .str b, q => q (.bool (!decide (a = b)))
  | .int a, .int b, q => q (.bool (!decide (a = b)))
  | d, e, q => eqOk d ∧ eqOk e ∧ q (.bool (!PyData.eqv d e))
theorem wEq_mo : Mo2 wEq := fun d e p p' h q => by
  unfold wEq at *; split at q <;> first | exact h _ q | exact ⟨q.1, q.2.1, h _ q.2.2⟩
theorem wNe_mo : Mo2 wNe := fun d e p p' h q => by
  unfold wNe at *; split at q <;> first | exact h _ q | exact ⟨q.1, q.2.1, h _ q.2.2⟩
mutual
theorem noDict_of : ∀ d : D, PyData.canLay0 d = true → noDict d = true
  | .none, _ => rfl
  | .bool _, _ => rfl
  | .int _, _ => rfl
  | .str _, _ => rfl
  | .list xs, h => noDictAll_of xs (by simpa [PyData.canLay0] using h)
  | .tuple xs, h => noDictAll_of xs (by simpa [PyData.canLay0] using h)
  | .dict _, h => by simp [PyData.canLay0] at h
theorem noDictAll_of : ∀ ds : List D, PyData.canLayAll0 ds = true → noDictAll ds = true
  | [], _ => rfl
  | d :: r, h => by
    have q : (PyData.canLay0 d && PyData.canLayAll0 r) = true := by simpa [PyData.canLayAll0] using h
    have q := Bool.and_eq_true _ _ ▸ q
    unfold noDictAll
    rw [noDict_of d q.1, noDictAll_of r q.2]
    rfl
end
theorem eqOk.nd {d : D} (h : eqOk d) : noDict d = true := noDict_of d (SeqAt.canLay_of_shaped h)
def rEqX (K : PySem.W.Frag) : R2 := fun x y H Q => rEq x y H Q ∨ rEqD K x y H Q
def rNeX (K : PySem.W.Frag) : R2 := fun x y H Q => rNe x y H Q ∨ rNeD K x y H Q
theorem decS {a b : Str} : decide (V.str a = V.str b) = decide (a = b) := by by_cases h : a = b <;> simp [h]
theorem decI {a b : Int} : decide (V.int a = V.int b) = decide (a = b) := by by_cases h : a = b <;> simp [h]
theorem sv_eq : Sv2 K (rEqX K) wEq := fun S H x y d e Q tr rx ry h => by
  unfold wEq at h
  split at h
  · cases rx; cases ry; exact .inl ⟨rfl, by rw [decS]; exact h _ H (Same.refl H) (.bl _)⟩
  · cases rx; cases ry; exact .inl ⟨rfl, by rw [decI]; exact h _ H (Same.refl H) (.bl _)⟩
  · exact .inr ⟨_, _, rx.dp h.1.nd, ry.dp h.2.1.nd, h.1, h.2.1, h.2.2 _ H (Same.refl H) (.bl _)⟩
theorem sv_ne : Sv2 K (rNeX K) wNe := fun S H x y d e Q tr rx ry h => by
  unfold wNe at h
  split at h
  · cases rx; cases ry; exact .inl ⟨rfl, by rw [decS]; exact h _ H (Same.refl H) (.bl _)⟩
  · cases rx; cases ry; exact .inl ⟨rfl, by rw [decI]; exact h _ H (Same.refl H) (.bl _)⟩
  · exact .inr ⟨_, _, rx.dp h.1.nd, ry.dp h.2.1.nd, h.1, h.2.1, h.2.2 _ H (Same.refl H) (.bl _)⟩
/-- order: ints; texts; tuples of ints -/
def intsOf : List D → Option (List Int)
  | [] => some []
  | .int i :: r => (intsOf r).map (i :: ·)
  | _ :: _ => none
theorem intsOf_map : ∀ ns : List Int, intsOf (ns.map PyData.int) = some ns
  | [] => rfl
  | n :: r => by
    show (intsOf (r.map PyData.int)).map (n :: ·) = _
    rw [intsOf_map r]; rfl
theorem intsOf_inv : ∀ {ds : List D} {ns : List Int}, intsOf ds = some ns → ds = ns.map PyData.int
  | [], ns, h => by cases h; rfl
  | .int i :: r, ns, h => by
    unfold intsOf at h
    cases q : intsOf r with
    | none => rw [q] at h; cases h
    | some ms => rw [q] at h; cases h; rw [intsOf_inv q]; rfl
  | .none :: _, _, h => by cases h
  | .bool _ :: _, _, h => by cases h
  | .str _ :: _, _, h => by cases h
  | .list _ :: _, _, h => by cases h
  | .tuple _ :: _, _, h => by cases h
  | .dict _ :: _, _, h => by cases h
def wInts (o : Option (List Int)) (p : List Int → Prop) : Prop := match o with
  | some l => p l
  | none => False
theorem wInts_inv {o : Option (List Int)} {p : List Int → Prop} (h : wInts o p) : ∃ l, o = some l ∧ p l := by
  cases o with
  | none => exact h.elim
  | some d => exact ⟨d, rfl, h⟩
def wLt : W2
  | .int a, .int b, q => q (.bool (decide (a < b)))
  | .str a, .str b, q => q (.bool (decide (a.cps.toList < b.cps.toList)))
  | .tuple a, .tuple b, q => wInts (intsOf a) fun ns => wInts (intsOf b) fun ms => q (.bool (HT.lexLt ns ms))
  | _, _, _ => False
def wLe : W2
  | .int a, .int b, q => q (.bool (decide (a ≤ b)))
  | _, _, _ => False
def wGt : W2
  | .int a, .int b, q => q (.bool (decide (b < a)))
  | _, _, _ => False
def wGe : W2
  | .int a, .int b, q => q (.bool (decide (b ≤ a)))
  | _, _, _ => False
theorem wLt_mo : Mo2 wLt := fun d e p p' h q => by
  unfold wLt at *
  split at q
  · exact h _ q
  · exact h _ q
  · obtain ⟨ns, e1, q⟩ := wInts_inv q
    obtain ⟨ms, e2, q⟩ := wInts_inv q
    rw [e1, e2]; exact h _ q
  · exact q
theorem wLe_mo : Mo2 wLe := fun d e p p' h q => by
  unfold wLe at *; split at q <;> first | exact h _ q | exact q
theorem wGt_mo : Mo2 wGt := fun d e p p' h q => by
  unfold wGt at *; split at q <;> first | exact h _ q | exact q
theorem wGe_mo : Mo2 wGe := fun d e p p' h q => by
  unfold wGe at *; split at q <;> first | exact h _ q | exact q
def rLtX (K : PySem.W.Frag) : R2 := fun x y H Q => (∃ i j, x = .int i ∧ y = .int j ∧ Q (.bl (decide (i < j))) H) ∨ (∃ i j, x = .str i ∧ y = .str j ∧ Q (.bl (decide (i.cps.toList < j.cps.toList))) H) ∨ rLtT K x y H Q
theorem sv_lt : Sv2 K (rLtX K) wLt := fun S H x y d e Q tr rx ry h => by
  unfold wLt at h
  split at h
  · cases rx; cases ry; exact .inl ⟨_, _, rfl, rfl, h _ H (Same.refl H) (.bl _)⟩
  · cases rx; cases ry; exact .inr (.inl ⟨_, _, rfl, rfl, h _ H (Same.refl H) (.bl _)⟩)
  · obtain ⟨ns, e1, h⟩ := wInts_inv h
    obtain ⟨ms, e2, h⟩ := wInts_inv h
    rw [intsOf_inv e1] at rx
    rw [intsOf_inv e2] at ry
    cases rx with
    | tup hx rx lx =>
      cases ry with
      | tup hy ry ly =>
        rw [rx.ints_inv] at hx
        rw [ry.ints_inv] at hy
        exact .inr (.inr ⟨_, _, ns, ms, rfl, rfl, tq hx, tq hy, h _ H (Same.refl H) (.bl _)⟩)
  · exact h.elim
theorem sv_le : Sv2 K (rI0 fun i j => .bl (decide (i ≤ j))) wLe := fun S H x y d e Q tr rx ry h => by
  unfold wLe at h
  split at h
  · cases rx; cases ry; exact ⟨_, _, rfl, rfl, h _ H (Same.refl H) (.bl _)⟩
  · exact h.elim
theorem sv_gt : Sv2 K (rI0 fun i j => .bl (decide (j < i))) wGt := fun S H x y d e Q tr rx ry h => by
  unfold wGt at h
  split at h
  · cases rx; cases ry; exact ⟨_, _, rfl, rfl, h _ H (Same.refl H) (.bl _)⟩
  · exact h.elim
theorem sv_ge : Sv2 K (rI0 fun i j => .bl (decide (j ≤ i))) wGe := fun S H x y d e Q tr rx ry h => by
  unfold wGe at h
  split at h
  · cases rx; cases ry; exact ⟨_, _, rfl, rfl, h _ H (Same.refl H) (.bl _)⟩
  · exact h.elim
/-- is, is not: of None, True, False -/
def wIs : W2
  | d, .none, q => q (.bool (match d with | .none => true | _ => false))
  | .bool a, .bool b, q => q (.bool (decide (a = b)))
  | _, _, _ => False
def wIsNot : W2
  | d, .none, q => q (.bool (match d with | .none => false | _ => true))
  | .bool a, .bool b, q => q (.bool (!decide (a = b)))
  | _, _, _ => False
theorem wIs_mo : Mo2 wIs := fun d e p p' h q => by
  unfold wIs at *; split at q <;> first | exact h _ q | exact q
theorem wIsNot_mo : Mo2 wIsNot := fun d e p p' h q => by
  unfold wIsNot at *; split at q <;> first | exact h _ q | exact q
def rIsX : R2 := fun x y H Q => (y = .non ∧ Q (.bl (decide (x = .non))) H) ∨ rIsB x y H Q
def rIsNotX : R2 := fun x y H Q => (y = .non ∧ Q (.bl (!decide (x = .non))) H) ∨ rNotB x y H Q
theorem sv_is : Sv2 K rIsX wIs := fun S H x y d e Q tr rx ry h => by
  unfold wIs at h
  split at h
  · cases ry
    refine .inl ⟨rfl, ?_⟩
    have := h (.bl (decide (x = .non))) H (Same.refl H)
    cases rx <;> exact this (R.bl _)
  · cases rx; cases ry; exact .inr ⟨_, _, rfl, rfl, h _ H (Same.refl H) (.bl _)⟩
  · exact h.elim
theorem sv_isNot : Sv2 K rIsNotX wIsNot := fun S H x y d e Q tr rx ry h => by
  unfold wIsNot at h
  split at h
  · cases ry
    refine .inl ⟨rfl, ?_⟩
    have := h (.bl (!decide (x = .non))) H (Same.refl H)
    cases rx <;> exact this (R.bl _)
  · cases rx; cases ry; exact .inr ⟨_, _, rfl, rfl, h _ H (Same.refl H) (.bl _)⟩
  · exact h.elim
/-! ### subscripts -/
def wAt (o : Option D) (q : D → Prop) : Prop := wD o q
def wIx : W2
  | .list ds, .int i, q => wD (atI ds i) q
  | .tuple ds, .int i, q => wD (atI ds i) q
  | .str x, .int i, q => x.length ≤ sizeLine ∧ (match atI x.cps.toList i with
    | some c => q (.str ⟨#[c]⟩)
    | none => False)
  | _, _, _ => False
theorem wIx_mo : Mo2 wIx := fun d e p p' h q => by
  unfold wIx at *
  split at q
  · exact wD_mono h q
  · exact wD_mono h q
  · refine ⟨q.1, ?_⟩
    have q2 := q.2
    split at q2
    · exact h _ q2
    · exact q2
  · exact q
theorem RA.atI {S : List Addr} {H : Hp} {vs : List V} {ds : List D} {i : Int} {d : D} (r : RA K S H vs ds) (h : atI ds i = some d) : ∃ v, L2.atI vs i = some v ∧ R K S H v d := by
  unfold L2.atI at *
  rw [r.length]
  cases q : ixN ds.length i with
  | none => rw [q] at h; cases h
  | some j =>
    rw [q] at h
    have h : ds[j]? = some d := h
    obtain ⟨v, h1, h2⟩ := r.get h
    exact ⟨v, h1, h2⟩
theorem sv_ix : Sv2 K (rIx K) wIx := fun S H x y d e Q tr rx ry h => by
  unfold wIx at h
  split at h
  · cases ry
    cases rx with
    | lst hx rx lx =>
      obtain ⟨d, e, h⟩ := wD_inv h
      obtain ⟨v, h1, h2⟩ := rx.atI e
      exact .inl ⟨_, _, _, v, rfl, rfl, hx.sq, h1, h _ H (Same.refl H) h2⟩
  · cases ry
    cases rx with
    | tup hx rx lx =>
      obtain ⟨d, e, h⟩ := wD_inv h
      obtain ⟨v, h1, h2⟩ := rx.atI e
      exact .inr (.inl ⟨_, _, _, v, rfl, rfl, tq hx, h1, h _ H (Same.refl H) h2⟩)
  · cases ry; cases rx
    obtain ⟨hl, h⟩ := h
    split at h
    · rename_i c e
      exact .inr (.inr ⟨_, _, c, rfl, rfl, hl, e, h _ H (Same.refl H) (.str _)⟩)
    · exact h.elim
  · exact h.elim
end
section
variable {X : Cx} {B : BI} {a b c : Expr} {ta tb tc : ET} {pos : Pos}
theorem d_add (hK : B.K = X.K) (ha : DE X B a ta) (hb : DE X B b tb) : DE X B (.BinOp a .Add b pos) (e2 wAdd ta tb) := d_op op_addX wAdd_mo (hK ▸ sv_add) ha hb
theorem d_sub (ha : DE X B a ta) (hb : DE X B b tb) : DE X B (.BinOp a .Sub b pos) (e2 wSub ta tb) := d_op op_subX wSub_mo sv_sub ha hb
theorem d_mul (hK : B.K = X.K) (ha : DE X B a ta) (hb : DE X B b tb) : DE X B (.BinOp a .Mult b pos) (e2 wMul ta tb) := d_op (OpR.or op_mul (OpR.or op_mulW (OpR.or op_repX (OpR.or op_repF op_rep1)))) wMul_mo (hK ▸ sv_mul) ha hb
theorem d_fdiv (ha : DE X B a ta) (hb : DE X B b tb) : DE X B (.BinOp a .FloorDiv b pos) (e2 wFdiv ta tb) := d_op (OpR.or op_fdivN op_fdivW) wFdiv_mo sv_fdiv ha hb
theorem d_mod (ha : DE X B a ta) (hb : DE X B b tb) : DE X B (.BinOp a .Mod b pos) (e2 wMod ta tb) := d_op op_modN wMod_mo sv_mod ha hb
theorem d_neg (ha : DE X B a ta) : DE X B (.UnaryOp .USub a pos) (e1 wNeg ta) := d_un un_neg wNeg_mo sv_neg ha
theorem d_eq (hK : B.K = X.K) (hu : X.A.units + 64 < cLine) (ha : DE X B a ta) (hb : DE X B b tb) : DE X B (.Compare a [.Eq] [b] pos) (e2 wEq ta tb) := d_cmp (OpR.or op_eq (op_eqD hu)) wEq_mo (hK ▸ sv_eq) ha hb (nomark _)
theorem d_ne (hK : B.K = X.K) (hu : X.A.units + 64 < cLine) (ha : DE X B a ta) (hb : DE X B b tb) : DE X B (.Compare a [.NotEq] [b] pos) (e2 wNe ta tb) := d_cmp (OpR.or op_ne (op_neD hu)) wNe_mo (hK ▸ sv_ne) ha hb (nomark _)
theorem op_ltX (hu : X.A.units < cLine) : OpR X (compareOp .Lt) (rLtX X.K) := OpR.or op_lt (OpR.or op_lt_str (op_ltT hu))
theorem d_lt (hK : B.K = X.K) (hu : X.A.units < cLine) (ha : DE X B a ta) (hb : DE X B b tb) : DE X B (.Compare a [.Lt] [b] pos) (e2 wLt ta tb) := d_cmp (op_ltX hu) wLt_mo (hK ▸ sv_lt) ha hb (nomark _)
theorem d_le (ha : DE X B a ta) (hb : DE X B b tb) : DE X B (.Compare a [.LtE] [b] pos) (e2 wLe ta tb) := d_cmp op_le wLe_mo sv_le ha hb (nomark _)
theorem d_gt (ha : DE X B a ta) (hb : DE X B b tb) : DE X B (.Compare a [.Gt] [b] pos) (e2 wGt ta tb) := d_cmp op_gt wGt_mo sv_gt ha hb (nomark _)
theorem d_ge (ha : DE X B a ta) (hb : DE X B b tb) : DE X B (.Compare a [.GtE] [b] pos) (e2 wGe ta tb) := d_cmp op_ge wGe_mo sv_ge ha hb (nomark _)
theorem d_is (ha : DE X B a ta) (hb : DE X B b tb) : DE X B (.Compare a [.Is] [b] pos) (e2 wIs ta tb) := d_cmp (OpR.or op_isN op_isBl) wIs_mo sv_is ha hb (nomark _)
theorem d_isNot (ha : DE X B a ta) (hb : DE X B b tb) : DE X B (.Compare a [.IsNot] [b] pos) (e2 wIsNot ta tb) := d_cmp (OpR.or op_notN op_notBl) wIsNot_mo sv_isNot ha hb (nomark _)
/-- a comparison as a test -/
theorem dt_cmp {op : CmpOp} {w : W2} (h : DE X B (.Compare a [op] [b] pos) (e2 w ta tb)) (hp : ∃ r, OpR X (compareOp op) r ∧ Mo2 w ∧ Sv2 B.K r w) (ha : DE X B a ta) (hb : DE X B b tb) (hm : behindInMarks op b = false) : DT X B (.Compare a [op] [b] pos) (tB' (e2 w ta tb)) := by
  obtain ⟨r, ho, mw, sv⟩ := hp
  exact d_tcmp ho mw sv ha hb hm
theorem dt_eq (hK : B.K = X.K) (hu : X.A.units + 64 < cLine) (ha : DE X B a ta) (hb : DE X B b tb) : DT X B (.Compare a [.Eq] [b] pos) (tB' (e2 wEq ta tb)) := d_tcmp (OpR.or op_eq (op_eqD hu)) wEq_mo (hK ▸ sv_eq) ha hb (nomark _)
theorem dt_ne (hK : B.K = X.K) (hu : X.A.units + 64 < cLine) (ha : DE X B a ta) (hb : DE X B b tb) : DT X B (.Compare a [.NotEq] [b] pos) (tB' (e2 wNe ta tb)) := d_tcmp (OpR.or op_ne (op_neD hu)) wNe_mo (hK ▸ sv_ne) ha hb (nomark _)
theorem dt_lt (hK : B.K = X.K) (hu : X.A.units < cLine) (ha : DE X B a ta) (hb : DE X B b tb) : DT X B (.Compare a [.Lt] [b] pos) (tB' (e2 wLt ta tb)) := d_tcmp (op_ltX hu) wLt_mo (hK ▸ sv_lt) ha hb (nomark _)
theorem dt_le (ha : DE X B a ta) (hb : DE X B b tb) : DT X B (.Compare a [.LtE] [b] pos) (tB' (e2 wLe ta tb)) := d_tcmp op_le wLe_mo sv_le ha hb (nomark _)
theorem dt_gt (ha : DE X B a ta) (hb : DE X B b tb) : DT X B (.Compare a [.Gt] [b] pos) (tB' (e2 wGt ta tb)) := d_tcmp op_gt wGt_mo sv_gt ha hb (nomark _)
theorem dt_ge (ha : DE X B a ta) (hb : DE X B b tb) : DT X B (.Compare a [.GtE] [b] pos) (tB' (e2 wGe ta tb)) := d_tcmp op_ge wGe_mo sv_ge ha hb (nomark _)
theorem dt_is (ha : DE X B a ta) (hb : DE X B b tb) : DT X B (.Compare a [.Is] [b] pos) (tB' (e2 wIs ta tb)) := d_tcmp (OpR.or op_isN op_isBl) wIs_mo sv_is ha hb (nomark _)
theorem dt_isNot (ha : DE X B a ta) (hb : DE X B b tb) : DT X B (.Compare a [.IsNot] [b] pos) (tB' (e2 wIsNot ta tb)) := d_tcmp (OpR.or op_notN op_notBl) wIsNot_mo sv_isNot ha hb (nomark _)
theorem d_idx (hK : B.K = X.K) (ha : DE X B a ta) (hb : DE X B b tb) (hs : PlainIx b := by exact fun _ _ => rfl) : DE X B (.Subscript a b pos) (e2 wIx ta tb) := d_ix ix_seq wIx_mo (hK ▸ sv_ix) ha hb hs
end
end DL

/-! DL8: built-in calls, slices, isinstance, repr. -/
namespace DL
open PySem PySem.Spec PyProof.Rows L2

/-! ### calls of builtins by values -/
abbrev WA := List D → (D → Prop) → Prop
def MoWA (w : WA) : Prop := ∀ ds p p', (∀ x, p x → p' x) → w ds p → w ds p'
def SvA (K : PySem.W.Frag) (r : List V → Hp → VK → Prop) (w : WA) : Prop := ∀ (S : List Addr) (H : Hp) (xs : List V) (ds : List D) (Q : VK), (∀ a ∈ S, ∃ o, H a = some o) → RBs K S H xs ds →
  w ds (fun z => ∀ v H', Same H H' → R K S H' v z → Q v H') → r xs H Q
def eB (w : WA) (ta : ETA) : ET := fun ρ p => ta ρ fun os ρ1 => wDs (getAll ρ1 os) fun ds => w ds fun z => p (.v z) ρ1
theorem eB_mo {w : WA} {ta : ETA} (mw : MoWA w) (ma : MoA ta) : MoE (eB w ta) := fun ρ p p' h q => ma _ _ _ (fun os ρ1 q => wDs_mono (fun ds q => mw ds _ _ (fun z q => h _ _ q) q) q) q
section
variable {X : Cx} {B : BI} {x : Str} {p pos : Pos} {e a b : Expr} {es : List Expr} {ta : ETA} {r : List V → Hp → VK → Prop} {w : WA} {id T : String} {te tb : ET}
theorem cb_of (mw : MoWA w) (sv : SvA B.K r w) (hA : MoA ta) {σ : L2.St} {H : Hp} {Q : VK} (h : bE B (eB w ta) σ H Q) : tCB r (bA B ta) σ H Q := by
  obtain ⟨S, ρ, g, q⟩ := h
  refine ⟨S, ρ, g, hA _ _ _ (fun os ρ1 q xs S1 H1 k1 g1 h1 => ?_) q⟩
  obtain ⟨ds, ed, q⟩ := wDs_inv q
  exact sv S1 H1 xs ds Q g1.trk (h1.gets g1 ed) (mw _ _ _ (fun z q v H' s rv => q v S1 H' (k1.trans (Kp.same s)) (g1.same s) rv) q)
theorem d_callB (hc : CallR X (.builtin id) r) (mw : MoWA w) (sv : SvA B.K r w) (hg : Gl X x) (hm : X.mg x = none) (hv : bootBuiltins x = some (.builtin id)) (ha : DA X B (e :: es) ta) (hn : x ≠ "__name__" := by decide) (hdb : (x == ("__debug__" : Str)) = false := by decide)
    (h1 : starEach (e :: es) X.env = (false, eval e X.env) :: starEach es X.env := by rfl) (h2 : (backTo pos (starEach es X.env)).any (·.1) = false := by rfl) : DE X B (.Call (.Name x p) (e :: es) [] pos) (eB w ta) :=
  ⟨peOf (pe_callB hc hg hm hv ha.pa hn hdb h1 h2) fun _ _ _ q => cb_of mw sv ha.mo q, eB_mo mw ha.mo⟩
theorem d_callT (hc : CallR X (.type T) r) (mw : MoWA w) (sv : SvA B.K r w) (hg : Gl X x) (hm : X.mg x = none) (hv : bootBuiltins x = some (.type T)) (ha : DA X B (e :: es) ta) (hn : x ≠ "__name__" := by decide) (hdb : (x == ("__debug__" : Str)) = false := by decide)
    (h1 : starEach (e :: es) X.env = (false, eval e X.env) :: starEach es X.env := by rfl) (h2 : (backTo pos (starEach es X.env)).any (·.1) = false := by rfl) : DE X B (.Call (.Name x p) (e :: es) [] pos) (eB w ta) :=
  ⟨peOf (pe_callTy hc hg hm hv ha.pa hn hdb h1 h2) fun _ _ _ q => cb_of mw sv ha.mo q, eB_mo mw ha.mo⟩
end
theorem RBs.one {K : PySem.W.Frag} {S : List Addr} {H : Hp} {xs : List V} {d : D} (h : RBs K S H xs [d]) : ∃ x, xs = [x] ∧ RB K S H x d := by
  cases h with
  | cons r t => cases t; exact ⟨_, rfl, r⟩
theorem RBs.two {K : PySem.W.Frag} {S : List Addr} {H : Hp} {xs : List V} {d e : D} (h : RBs K S H xs [d, e]) : ∃ x y, xs = [x, y] ∧ RB K S H x d ∧ RB K S H y e := by
  cases h with
  | cons r t =>
    obtain ⟨y, rfl, ry⟩ := t.one
    exact ⟨_, y, rfl, r, ry⟩
def wLen : WA
  | [.list ds], q => q (.int ds.length)
  | [.tuple ds], q => q (.int ds.length)
  | [.str x], q => x.length ≤ sizeLine ∧ q (.int x.length)
  | _, _ => False
def wAbs : WA
  | [.int i], q => q (.int (if i < 0 then -i else i))
  | _, _ => False
def wMax2 : WA
  | [.int i, .int j], q => q (.int (if j > i then j else i))
  | _, _ => False
def wMin2 : WA
  | [.int i, .int j], q => q (.int (if j < i then j else i))
  | _, _ => False
def wInt1 : WA
  | [.int i], q => q (.int i)
  | [.bool b], q => q (.int (if b then 1 else 0))
  | _, _ => False
def wTupOf : WA
  | [.list ds], q => q (.tuple ds)
  | [.tuple ds], q => q (.tuple ds)
  | _, _ => False
def wLstOf : WA
  | [.list ds], q => q (.list ds)
  | [.tuple ds], q => q (.list ds)
  | _, _ => False
def boolsOf : List D → Option (List Bool)
  | [] => some []
  | .bool i :: r => (boolsOf r).map (i :: ·)
  | _ :: _ => none
theorem boolsOf_map : ∀ ns : List Bool, boolsOf (ns.map PyData.bool) = some ns
  | [] => rfl
  | n :: r => by
    show (boolsOf (r.map PyData.bool)).map (n :: ·) = _
    rw [boolsOf_map r]; rfl
theorem boolsOf_inv : ∀ {ds : List D} {ns : List Bool}, boolsOf ds = some ns → ds = ns.map PyData.bool
  | [], ns, h => by cases h; rfl
  | .bool i :: r, ns, h => by
    unfold boolsOf at h
    cases q : boolsOf r with
    | none => rw [q] at h; cases h
    | some ms => rw [q] at h; cases h; rw [boolsOf_inv q]; rfl
  | .none :: _, _, h => by cases h
  | .int _ :: _, _, h => by cases h
  | .str _ :: _, _, h => by cases h
  | .list _ :: _, _, h => by cases h
  | .tuple _ :: _, _, h => by cases h
  | .dict _ :: _, _, h => by cases h
def wBools (o : Option (List Bool)) (p : List Bool → Prop) : Prop := match o with
  | some l => p l
  | none => False
theorem wBools_inv {o : Option (List Bool)} {p : List Bool → Prop} (h : wBools o p) : ∃ l, o = some l ∧ p l := by
  cases o with
  | none => exact h.elim
  | some d => exact ⟨d, rfl, h⟩
def wAll : WA
  | [.list ds], q => wBools (boolsOf ds) fun bs => q (.bool (bs.all id))
  | _, _ => False
def wAny : WA
  | [.list ds], q => wBools (boolsOf ds) fun bs => q (.bool (bs.any id))
  | _, _ => False
def wSum : WA
  | [.list ds], q => wInts (intsOf ds) fun bs => q (.int bs.sum)
  | _, _ => False
theorem wLen_mo : MoWA wLen := fun d p p' h q => by
  unfold wLen at *; split at q <;> first | exact h _ q | exact ⟨q.1, h _ q.2⟩ | exact q
theorem wAbs_mo : MoWA wAbs := fun d p p' h q => by
  unfold wAbs at *; split at q <;> first | exact h _ q | exact q
theorem wMax2_mo : MoWA wMax2 := fun d p p' h q => by
  unfold wMax2 at *; split at q <;> first | exact h _ q | exact q
theorem wMin2_mo : MoWA wMin2 := fun d p p' h q => by
  unfold wMin2 at *; split at q <;> first | exact h _ q | exact q
theorem wInt1_mo : MoWA wInt1 := fun d p p' h q => by
  unfold wInt1 at *; split at q <;> first | exact h _ q | exact q
theorem wTupOf_mo : MoWA wTupOf := fun d p p' h q => by
  unfold wTupOf at *; split at q <;> first | exact h _ q | exact q
theorem wLstOf_mo : MoWA wLstOf := fun d p p' h q => by
  unfold wLstOf at *; split at q <;> first | exact h _ q | exact q
theorem wAll_mo : MoWA wAll := fun d p p' h q => by
  unfold wAll at *
  split at q
  · obtain ⟨l, e, q⟩ := wBools_inv q
    rw [e]; exact h _ q
  · exact q
theorem wAny_mo : MoWA wAny := fun d p p' h q => by
  unfold wAny at *
  split at q
  · obtain ⟨l, e, q⟩ := wBools_inv q
    rw [e]; exact h _ q
  · exact q
theorem wSum_mo : MoWA wSum := fun d p p' h q => by
  unfold wSum at *
  split at q
  · obtain ⟨l, e, q⟩ := wInts_inv q
    rw [e]; exact h _ q
  · exact q
section
variable {K : PySem.W.Frag}
theorem sv_len : SvA K (fun xs H Q => ∃ x n, xs = [x] ∧ LenV K x H n ∧ Q (.int n) H) wLen := fun S H xs ds Q tr r h => by
  unfold wLen at h
  split at h
  · obtain ⟨x, rfl, rx⟩ := r.one
    cases rx with
    | lst hx rx lx => exact ⟨_, _, rfl, .inl ⟨_, hx.sq, rfl⟩, by rw [rx.length]; exact h _ H (Same.refl H) (.int _)⟩
  · obtain ⟨x, rfl, rx⟩ := r.one
    cases rx with
    | tup hx rx lx => exact ⟨_, _, rfl, .inr ⟨_, tq hx, rfl⟩, by rw [rx.length]; exact h _ H (Same.refl H) (.int _)⟩
  · obtain ⟨x, rfl, rx⟩ := r.one
    cases rx
    exact ⟨_, _, rfl, ⟨h.1, rfl⟩, h.2 _ H (Same.refl H) (.int _)⟩
  · exact h.elim
theorem sv_abs : SvA K (fun xs H Q => ∃ i, xs = [.int i] ∧ Q (.int (if i < 0 then -i else i)) H) wAbs := fun S H xs ds Q tr r h => by
  unfold wAbs at h
  split at h
  · obtain ⟨x, rfl, rx⟩ := r.one
    cases rx; exact ⟨_, rfl, h _ H (Same.refl H) (.int _)⟩
  · exact h.elim
theorem sv_max2 : SvA K (fun xs H Q => ∃ i j, xs = [.int i, .int j] ∧ Q (.int (if j > i then j else i)) H) wMax2 := fun S H xs ds Q tr r h => by
  unfold wMax2 at h
  split at h
  · obtain ⟨x, y, rfl, rx, ry⟩ := r.two
    cases rx; cases ry; exact ⟨_, _, rfl, h _ H (Same.refl H) (.int _)⟩
  · exact h.elim
theorem sv_min2 : SvA K (fun xs H Q => ∃ i j, xs = [.int i, .int j] ∧ Q (.int (if j < i then j else i)) H) wMin2 := fun S H xs ds Q tr r h => by
  unfold wMin2 at h
  split at h
  · obtain ⟨x, y, rfl, rx, ry⟩ := r.two
    cases rx; cases ry; exact ⟨_, _, rfl, h _ H (Same.refl H) (.int _)⟩
  · exact h.elim
theorem sv_int1 : SvA K (fun xs H Q => (∃ i, xs = [.int i] ∧ Q (.int i) H) ∨ ∃ k, xs = [.bl k] ∧ Q (.int (if k then 1 else 0)) H) wInt1 := fun S H xs ds Q tr r h => by
  unfold wInt1 at h
  split at h
  · obtain ⟨x, rfl, rx⟩ := r.one
    cases rx; exact .inl ⟨_, rfl, h _ H (Same.refl H) (.int _)⟩
  · obtain ⟨x, rfl, rx⟩ := r.one
    cases rx; exact .inr ⟨_, rfl, h _ H (Same.refl H) (.int _)⟩
  · exact h.elim
theorem sv_tupOf : SvA K (fun xs H Q => ∃ p ys, xs = [.ref p] ∧ ((SqL K H p ys ∧ NewT H ys Q) ∨ (SqT K H p ys ∧ Q (.ref p) H))) wTupOf := fun S H xs ds Q tr r h => by
  unfold wTupOf at h
  split at h
  · obtain ⟨x, rfl, rx⟩ := r.one
    cases rx with
    | lst hx rx lx => exact ⟨_, _, rfl, .inl ⟨hx.sq, fun l o hl hd => h _ _ (same_new hl) (R.tup (.inl ⟨notS tr hl, NewT.at hd⟩) (rx.kp (Kp.same (same_new hl))) lx)⟩⟩
  · obtain ⟨x, rfl, rx⟩ := r.one
    cases rx with
    | tup hx rx lx => exact ⟨_, _, rfl, .inr ⟨tq hx, h _ H (Same.refl H) (R.tup hx rx lx)⟩⟩
  · exact h.elim
theorem sv_lstOf : SvA K (fun xs H Q => ∃ p ys, xs = [.ref p] ∧ (SqL K H p ys ∨ SqT K H p ys) ∧ ∀ l, H l = none → Q (.ref l) (upd H l (.lst ys))) wLstOf := fun S H xs ds Q tr r h => by
  unfold wLstOf at h
  split at h
  · obtain ⟨x, rfl, rx⟩ := r.one
    cases rx with
    | lst hx rx lx => exact ⟨_, _, rfl, .inl hx.sq, fun l hl => h _ _ (same_new hl) (R.lst (.inl ⟨notS tr hl, .inl upd_same⟩) (rx.kp (Kp.same (same_new hl))) lx)⟩
  · obtain ⟨x, rfl, rx⟩ := r.one
    cases rx with
    | tup hx rx lx => exact ⟨_, _, rfl, .inr (tq hx), fun l hl => h _ _ (same_new hl) (R.lst (.inl ⟨notS tr hl, .inl upd_same⟩) (rx.kp (Kp.same (same_new hl))) lx)⟩
  · exact h.elim
theorem RA.bools_inv {S : List Addr} {H : Hp} : ∀ {ns : List Bool} {vs : List V}, RA K S H vs (ns.map PyData.bool) → vs = ns.map V.bl
  | [], _, .nil => rfl
  | n :: r, _, .cons h t => by
    cases h
    rw [RA.bools_inv t]
    rfl
theorem sv_all : SvA K (rAll K) wAll := fun S H xs ds Q tr r h => by
  unfold wAll at h
  split at h
  · obtain ⟨l, e, h⟩ := wBools_inv h
    rw [boolsOf_inv e] at r
    obtain ⟨x, rfl, rx⟩ := r.one
    cases rx with
    | lst hx rx lx =>
      rw [rx.bools_inv] at hx
      exact ⟨_, l, rfl, hx.sq, h _ H (Same.refl H) (.bl _)⟩
  · exact h.elim
theorem sv_any : SvA K (rAny K) wAny := fun S H xs ds Q tr r h => by
  unfold wAny at h
  split at h
  · obtain ⟨l, e, h⟩ := wBools_inv h
    rw [boolsOf_inv e] at r
    obtain ⟨x, rfl, rx⟩ := r.one
    cases rx with
    | lst hx rx lx =>
      rw [rx.bools_inv] at hx
      exact ⟨_, l, rfl, hx.sq, h _ H (Same.refl H) (.bl _)⟩
  · exact h.elim
theorem sv_sum : SvA K (rSum K) wSum := fun S H xs ds Q tr r h => by
  unfold wSum at h
  split at h
  · obtain ⟨l, e, h⟩ := wInts_inv h
    rw [intsOf_inv e] at r
    obtain ⟨x, rfl, rx⟩ := r.one
    cases rx with
    | lst hx rx lx =>
      rw [rx.ints_inv] at hx
      exact ⟨_, l, rfl, hx.sq, h _ H (Same.refl H) (.int _)⟩
  · exact h.elim
/-! repr -/
def shownOk (d : D) : Prop := eqOk d ∧ PyData.showable d = true ∧ d.shown.length ≤ sizeLine
/-- the text that repr gives: not to be looked into -/
@[irreducible] def shownI (d : D) : Str := d.shown
theorem shownI_eq (d : D) : shownI d = d.shown := by unfold shownI; rfl
def wRepr : WA
  | [d], q => shownOk d ∧ q (.str (shownI d))
  | _, _ => False
theorem wRepr_mo : MoWA wRepr := fun d p p' h q => by
  unfold wRepr at *; split at q <;> first | exact h _ q | exact ⟨q.1, h _ q.2⟩ | exact q
def rRepr (K : PySem.W.Frag) : List V → Hp → VK → Prop := fun xs H Q => ∃ x d, xs = [x] ∧ Dp K H x d ∧ shownOk d ∧ Q (.str d.shown) H
theorem sv_repr : SvA K (rRepr K) wRepr := fun S H xs ds Q tr r h => by
  unfold wRepr at h
  split at h
  · obtain ⟨x, rfl, rx⟩ := r.one
    exact ⟨x, _, rfl, rx.dp h.1.1.nd, h.1, by rw [← shownI_eq]; exact h.2 _ H (Same.refl H) (.str _)⟩
  · exact h.elim
end
section
variable {X : Cx} {B : BI} {p pos p1 p2 : Pos} {e a b : Expr} {es : List Expr} {ta : ETA} {te tb : ET} {lo hi : Option Expr}
theorem call_repr (hgd : X.A.guards = some []) (hu : X.A.units + 66 < cLine) : CallR X (.builtin "repr") (rRepr X.K) := by
  intro pins s σ H xs us Q I r h
  obtain ⟨x, d, rfl, hd, ⟨hs, hsh, hl⟩, q⟩ := h
  obtain ⟨u, rfl, ru⟩ := vals1 r
  obtain ⟨as, rd⟩ := Dp.reads I d x u hd ru
  cases rd with
  | none => exact PySem.P.repr_of_none ⟨.str _, H, I.tok _, ⟨_, rfl⟩, q⟩
  | bool b => exact PySem.P.repr_of_bool ⟨.str _, H, I.tok _, ⟨_, rfl⟩, q⟩
  | int i t =>
    have : i.natAbs.log2 < 1920 := of_decide_eq_true (by simpa [PyData.showable] using hsh)
    exact PySem.P.repr_of_int this ⟨.str _, H, I.tok _, ⟨_, rfl⟩, q⟩
  | str y t => exact PySem.P.repr_of_str ⟨.str _, H, I.tok _, ⟨_, rfl⟩, q⟩ hl
  | list h1 h2 h3 h4 =>
    have dep := SeqAt.depth_of_shaped hs
    exact repr_of_reads' (Reads.list h1 h2 h3 h4) hsh (fun z => by rw [PyData.hasDict_of_canLay _ (SeqAt.canLay_of_shaped hs)] at z; cases z) hgd (by omega) (fun _ _ z => z) (fun h' u tk hk => ⟨.str _, H, I.kept (t' := tk) hk, ⟨_, rfl⟩, q⟩) hl
  | tuple h1 h2 h3 h4 =>
    have dep := SeqAt.depth_of_shaped hs
    exact repr_of_reads' (Reads.tuple h1 h2 h3 h4) hsh (fun z => by rw [PyData.hasDict_of_canLay _ (SeqAt.canLay_of_shaped hs)] at z; cases z) hgd (by omega) (fun _ _ z => z) (fun h' u tk hk => ⟨.str _, H, I.kept (t' := tk) hk, ⟨_, rfl⟩, q⟩) hl
  | dict h1 h2 h3 h4 h5 => cases hd
theorem d_len (hK : B.K = X.K) (hg : Gl X "len") (hm : X.mg "len" = none) (ha : DA X B (a :: es) ta) (h1 : starEach (a :: es) X.env = (false, eval a X.env) :: starEach es X.env := by rfl) (h2 : (backTo pos (starEach es X.env)).any (·.1) = false := by rfl) :
    DE X B (.Call (.Name "len" p) (a :: es) [] pos) (eB wLen ta) := d_callB call_len wLen_mo (hK ▸ sv_len) hg hm PySem.boot_len ha (h1 := h1) (h2 := h2)
theorem d_abs (hg : Gl X "abs") (hm : X.mg "abs" = none) (ha : DA X B (a :: es) ta) (h1 : starEach (a :: es) X.env = (false, eval a X.env) :: starEach es X.env := by rfl) (h2 : (backTo pos (starEach es X.env)).any (·.1) = false := by rfl) :
    DE X B (.Call (.Name "abs" p) (a :: es) [] pos) (eB wAbs ta) := d_callB call_abs wAbs_mo sv_abs hg hm (by decide +kernel) ha (h1 := h1) (h2 := h2)
theorem d_max2 (hc : X.calm = true) (hg : Gl X "max") (hm : X.mg "max" = none) (ha : DA X B (a :: b :: es) ta) (h1 : starEach (a :: b :: es) X.env = (false, eval a X.env) :: starEach (b :: es) X.env := by rfl) (h2 : (backTo pos (starEach (b :: es) X.env)).any (·.1) = false := by rfl) :
    DE X B (.Call (.Name "max" p) (a :: b :: es) [] pos) (eB wMax2 ta) := d_callB (call_max2 hc) wMax2_mo sv_max2 hg hm (by decide +kernel) ha (h1 := h1) (h2 := h2)
theorem d_min2 (hc : X.calm = true) (hg : Gl X "min") (hm : X.mg "min" = none) (ha : DA X B (a :: b :: es) ta) (h1 : starEach (a :: b :: es) X.env = (false, eval a X.env) :: starEach (b :: es) X.env := by rfl) (h2 : (backTo pos (starEach (b :: es) X.env)).any (·.1) = false := by rfl) :
    DE X B (.Call (.Name "min" p) (a :: b :: es) [] pos) (eB wMin2 ta) := d_callB (call_min2 hc) wMin2_mo sv_min2 hg hm (by decide +kernel) ha (h1 := h1) (h2 := h2)
theorem d_int1 (hg : Gl X "int") (hm : X.mg "int" = none) (ha : DA X B (a :: es) ta) (h1 : starEach (a :: es) X.env = (false, eval a X.env) :: starEach es X.env := by rfl) (h2 : (backTo pos (starEach es X.env)).any (·.1) = false := by rfl) :
    DE X B (.Call (.Name "int" p) (a :: es) [] pos) (eB wInt1 ta) := d_callT call_int1 wInt1_mo sv_int1 hg hm (by decide +kernel) ha (h1 := h1) (h2 := h2)
theorem d_tupOf (hK : B.K = X.K) (hg : Gl X "tuple") (hm : X.mg "tuple" = none) (ha : DA X B (a :: es) ta) (h1 : starEach (a :: es) X.env = (false, eval a X.env) :: starEach es X.env := by rfl) (h2 : (backTo pos (starEach es X.env)).any (·.1) = false := by rfl) :
    DE X B (.Call (.Name "tuple" p) (a :: es) [] pos) (eB wTupOf ta) := d_callT call_tupF wTupOf_mo (hK ▸ sv_tupOf) hg hm (by decide +kernel) ha (h1 := h1) (h2 := h2)
theorem d_lstOf (hK : B.K = X.K) (hg : Gl X "list") (hm : X.mg "list" = none) (ha : DA X B (a :: es) ta) (h1 : starEach (a :: es) X.env = (false, eval a X.env) :: starEach es X.env := by rfl) (h2 : (backTo pos (starEach es X.env)).any (·.1) = false := by rfl) :
    DE X B (.Call (.Name "list" p) (a :: es) [] pos) (eB wLstOf ta) := d_callT call_list_of wLstOf_mo (hK ▸ sv_lstOf) hg hm (by decide +kernel) ha (h1 := h1) (h2 := h2)
theorem d_all (hK : B.K = X.K) (hc : X.calm = true) (hg : Gl X "all") (hm : X.mg "all" = none) (ha : DA X B (a :: es) ta) (h1 : starEach (a :: es) X.env = (false, eval a X.env) :: starEach es X.env := by rfl) (h2 : (backTo pos (starEach es X.env)).any (·.1) = false := by rfl) :
    DE X B (.Call (.Name "all" p) (a :: es) [] pos) (eB wAll ta) := d_callB (cr_all hc) wAll_mo (hK ▸ sv_all) hg hm (by decide +kernel) ha (h1 := h1) (h2 := h2)
theorem d_any (hK : B.K = X.K) (hc : X.calm = true) (hg : Gl X "any") (hm : X.mg "any" = none) (ha : DA X B (a :: es) ta) (h1 : starEach (a :: es) X.env = (false, eval a X.env) :: starEach es X.env := by rfl) (h2 : (backTo pos (starEach es X.env)).any (·.1) = false := by rfl) :
    DE X B (.Call (.Name "any" p) (a :: es) [] pos) (eB wAny ta) := d_callB (cr_any hc) wAny_mo (hK ▸ sv_any) hg hm (by decide +kernel) ha (h1 := h1) (h2 := h2)
theorem d_sum (hK : B.K = X.K) (hc : X.calm = true) (hg : Gl X "sum") (hm : X.mg "sum" = none) (ha : DA X B (a :: es) ta) (h1 : starEach (a :: es) X.env = (false, eval a X.env) :: starEach es X.env := by rfl) (h2 : (backTo pos (starEach es X.env)).any (·.1) = false := by rfl) :
    DE X B (.Call (.Name "sum" p) (a :: es) [] pos) (eB wSum ta) := d_callB (cr_sum hc) wSum_mo (hK ▸ sv_sum) hg hm (by decide +kernel) ha (h1 := h1) (h2 := h2)
theorem d_repr (hK : B.K = X.K) (hgd : X.A.guards = some []) (hu : X.A.units + 66 < cLine) (hg : Gl X "repr") (hm : X.mg "repr" = none) (ha : DA X B (a :: es) ta) (h1 : starEach (a :: es) X.env = (false, eval a X.env) :: starEach es X.env := by rfl) (h2 : (backTo pos (starEach es X.env)).any (·.1) = false := by rfl) :
    DE X B (.Call (.Name "repr" p) (a :: es) [] pos) (eB wRepr ta) := d_callB (call_repr hgd hu) wRepr_mo (hK ▸ sv_repr) hg hm (by decide +kernel) ha (h1 := h1) (h2 := h2)

/-! ### slices -/
abbrev EO := Env → (Option Int → Env → Prop) → Prop
def MoEO (t : EO) : Prop := ∀ ρ p p', (∀ o ρ', p o ρ' → p' o ρ') → t ρ p → t ρ p'
def oNone : EO := fun ρ p => p none ρ
def oSome (te : ET) : EO := fun ρ p => te ρ fun o ρ1 => wI o fun i => p (some i) ρ1
def bO (B : BI) (t : EO) : TO := fun σ H Q => ∃ S ρ, SR B S σ H ρ ∧ t ρ fun o ρ' => ∀ S' H', Kp S H S' H' → SR B S' σ H' ρ' → Q o H'
structure DPo (X : Cx) (B : BI) (e : Option Expr) (t : EO) : Prop where
  po : PO X e (bO B t)
  mo : MoEO t
theorem dp_none : DPo X B none oNone := ⟨⟨fun pins s σ H Q I ⟨S, ρ, g, q⟩ => po_none.run pins s σ H Q I (q S H (Kp.refl _ _) g)⟩, fun ρ p p' h q => h _ _ q⟩
theorem dp_some (h : DE X B e te) : DPo X B (some e) (oSome te) := ⟨⟨fun pins s σ H Q I ⟨S, ρ, g, q⟩ => (po_some h.pe).run pins s σ H Q I ⟨S, ρ, g, h.mo _ _ _ (fun o ρ1 q x S1 H1 k1 g1 h1 => by
    obtain ⟨i, e1, q⟩ := wI_inv q
    rw [e1] at h1
    cases (show R B.K S1 H1 x (.int i) from h1)
    exact ⟨i, rfl, q S1 H1 k1 g1⟩) q⟩⟩, fun ρ p p' i q => h.mo _ _ _ (fun o ρ1 q => wI_mono (fun j q => i _ _ q) q) q⟩
def cutD (xs : List D) (lo hi : Option Int) : List D := (xs.drop (HT.sIx xs.length 0 lo)).take (HT.sIx xs.length xs.length hi - HT.sIx xs.length 0 lo)
def wSl : D → Option Int → Option Int → (D → Prop) → Prop
  | .list ds, lo, hi, q => q (.list (cutD ds lo hi))
  | .tuple ds, lo, hi, q => q (.tuple (cutD ds lo hi))
  | _, _, _, _ => False
theorem wSl_mono {d : D} {lo hi : Option Int} {p p' : D → Prop} (i : ∀ d, p d → p' d) (h : wSl d lo hi p) : wSl d lo hi p' := by
  unfold wSl at *; split at h <;> first | exact i _ h | exact h
def eSl (te : ET) (tl th : EO) : ET := fun ρ p => te ρ fun o ρ1 => tl ρ1 fun lo ρ2 => th ρ2 fun hi ρ3 => wD (o.get ρ3) fun d => wSl d lo hi fun z => p (.v z) ρ3
theorem RA.cut {K : PySem.W.Frag} {S : List Addr} {H : Hp} {xs : List V} {ds : List D} (r : RA K S H xs ds) (lo hi : Option Int) : RA K S H (cutV xs lo hi) (cutD ds lo hi) := by
  unfold cutV cutD
  rw [r.length]
  exact (r.drop _).take _
theorem cutD_le (ds : List D) (lo hi : Option Int) : (cutD ds lo hi).length ≤ ds.length := by
  unfold cutD
  rw [List.length_take, List.length_drop]
  omega
theorem cut_whole {ds : List D} {lo hi : Option Int} (h : HT.sIx ds.length 0 lo = 0 ∧ HT.sIx ds.length ds.length hi = ds.length) : cutD ds lo hi = ds := by
  unfold cutD
  rw [h.1, h.2, List.drop_zero, Nat.sub_zero, List.take_length]
theorem d_slice (hK : B.K = X.K) {tl th : EO} (he : DE X B e te) (hl : DPo X B lo tl) (hh : DPo X B hi th) : DE X B (.Subscript e (.Slice lo hi none p2) pos) (eSl te tl th) :=
  ⟨peOf (pe_slice (SlR.or sl_list sl_tupF) he.pe hl.po hh.po) fun σ H Q ⟨S, ρ, g, q⟩ => ⟨S, ρ, g, he.mo _ _ _ (fun o ρ1 q x S1 H1 k1 g1 h1 => ⟨S1, ρ1, g1, hl.mo _ _ _ (fun l ρ2 q S2 H2 k2 g2 => ⟨S2, ρ2, g2, hh.mo _ _ _ (fun u ρ3 q S3 H3 k3 g3 => by
    obtain ⟨d, ed, q⟩ := wD_inv q
    have rb := ((h1.kp k2).kp k3).get g3 ed
    have kk := (k1.trans k2).trans k3
    unfold wSl at q
    rw [← hK]
    split at q
    · cases rb with
      | lst hx rx lx => exact .inl ⟨_, _, rfl, hx.sq, fun p hp => q _ S3 _ (kk.trans (Kp.same (same_new hp))) (g3.same (same_new hp)) (R.lst (.inl ⟨notS g3.trk hp, .inl upd_same⟩) ((rx.cut _ _).kp (Kp.same (same_new hp))) (Nat.le_trans (cutD_le _ _ _) lx))⟩
    · cases rb with
      | tup hx rx lx =>
        refine .inr ⟨_, _, rfl, tq hx, fun w => ?_, fun _ p o hp hd => q _ S3 _ (kk.trans (Kp.same (same_new hp))) (g3.same (same_new hp)) (R.tup (.inl ⟨notS g3.trk hp, NewT.at hd⟩) ((rx.cut _ _).kp (Kp.same (same_new hp))) (Nat.le_trans (cutD_le _ _ _) lx))⟩
        rw [rx.length] at w
        rw [cut_whole w] at q
        exact q _ S3 H3 kk g3 (R.tup hx rx lx)
    · exact q.elim) q⟩) q⟩) q⟩, fun ρ p p' i q => he.mo _ _ _ (fun o ρ1 q => hl.mo _ _ _ (fun l ρ2 q => hh.mo _ _ _ (fun u ρ3 q => wD_mono (fun d q => wSl_mono (fun z q => i _ _ q) q) q) q) q) q⟩
/-- xs[::-1] of a list -/
def eRevL (te : ET) : ET := fun ρ p => te ρ fun o ρ1 => wD (o.get ρ1) fun d => match d with
  | .list ds => p (.v (.list ds.reverse)) ρ1
  | _ => False
theorem d_revL {k : Nat} {p3 : Pos} (hK : B.K = X.K) (he : DE X B e te) : DE X B (.Subscript e (.Slice none none (some (.UnaryOp .USub (.Constant (.int 1) k p1) p2)) p3) pos) (eRevL te) :=
  ⟨peOf (pe_revL he.pe) fun σ H Q ⟨S, ρ, g, q⟩ => ⟨S, ρ, g, he.mo _ _ _ (fun o ρ1 q x S1 H1 k1 g1 h1 => by
    obtain ⟨d, ed, q⟩ := wD_inv q
    have rb := h1.get g1 ed
    split at q
    · cases rb with
      | lst hx rx lx => rw [← hK]; exact ⟨_, _, rfl, hx.sq, fun p hp => q _ S1 _ (k1.trans (Kp.same (same_new hp))) (g1.same (same_new hp)) (R.lst (.inl ⟨notS g1.trk hp, .inl upd_same⟩) (rx.reverse.kp (Kp.same (same_new hp))) (by rw [List.length_reverse]; exact lx))⟩
    · exact q.elim) q⟩, fun ρ p p' i q => he.mo _ _ _ (fun o ρ1 q => wD_mono (fun d q => by
    split at q
    · exact i _ _ q
    · exact q) q) q⟩

/-! ### isinstance with a built-in class -/
def tyN : D → String
  | .none => "NoneType"
  | .bool _ => "bool"
  | .int _ => "int"
  | .str _ => "str"
  | .list _ => "list"
  | .tuple _ => "tuple"
  | .dict _ => "dict"
def isTy (T : String) (d : D) : Bool := (kitB (tyN d) T).getD false
/-- T is one of the classes that are served -/
def tyOk (T : String) : Bool := ["NoneType", "bool", "int", "str", "list", "tuple", "dict"].all fun t => (kitB t T).isSome
theorem tyOk_at {T : String} (h : tyOk T = true) (d : D) : kitB (tyN d) T = some (isTy T d) := by
  have h := List.all_eq_true.mp h
  unfold isTy
  have : (kitB (tyN d) T).isSome = true := by cases d <;> exact h _ (by simp [tyN])
  cases q : kitB (tyN d) T with
  | none => rw [q] at this; cases this
  | some b => rfl
def notDict : D → Bool
  | .dict _ => false
  | _ => true
def wIsi (T : String) : W1 := fun d q => notDict d = true ∧ q (.bool (isTy T d))
theorem RB.ty {K : PySem.W.Frag} {S : List Addr} {H : Hp} {x : V} {d : D} (n : notDict d = true) (r : RB K S H x d) : TyX K H x (.type (tyN d)) := by
  cases r with
  | non => exact .base .non
  | bl b => exact .base (.bl b)
  | int b => exact .base (.int b)
  | str b => exact .base (.str b)
  | lst h _ _ =>
    rcases h with (h | ⟨o, h⟩) | ⟨its, m, h, _⟩
    · exact .base (.lst h)
    · exact .base (.frz h)
    · exact .kList h rfl
  | tup h _ _ =>
    rcases h with ⟨_, o, h, _⟩ | ⟨o, its, m, h, c, _⟩
    · exact .fTuple h
    · exact .kTuple h c
  | dik _ _ => cases n
  | dit _ _ => cases n
/-- isinstance(e, T) -/
theorem d_isi {T : String} {pT : Pos} (hK : B.K = X.K) (hT : tyOk T = true) (hg : Gl X "isinstance") (hm : X.mg "isinstance" = none) (hgT : Gl X (Str.ofString T)) (hmT : X.mg (Str.ofString T) = none) (hvT : bootBuiltins (Str.ofString T) = some (.type T)) (ha : DE X B a te)
    (hn : Str.ofString T ≠ "__name__" := by decide) (hdb : (Str.ofString T == ("__debug__" : Str)) = false := by decide)
    (h1 : starEach (a :: [.Name (Str.ofString T) pT]) X.env = (false, eval a X.env) :: starEach [.Name (Str.ofString T) pT] X.env := by rfl) (h2 : starEach [.Name (Str.ofString T) pT] X.env = (false, eval (.Name (Str.ofString T) pT) X.env) :: starEach [] X.env := by rfl)
    (h3 : (backTo pos (starEach [.Name (Str.ofString T) pT] X.env)).any (·.1) = false := by rfl) :
    DE X B (.Call (.Name "isinstance" p) (a :: [.Name (Str.ofString T) pT]) [] pos) (e1 (wIsi T) te) :=
  ⟨peOf (pe_callB call_isi hg hm (by decide +kernel) (pa_cons ha.pe (pa_cons (pe_bltn (v := .ty T) hgT hmT hvT rfl hn hdb) pa_nil h2) h1) (by decide) (by decide) h1 h3) fun σ H Q ⟨S, ρ, g, q⟩ => ⟨S, ρ, g, ha.mo _ _ _ (fun o ρ1 q x S1 H1 k1 g1 h1 => by
    obtain ⟨d, ed, nd, q⟩ := wD_inv q
    rw [← hK]
    exact ⟨x, .ty T, _, _, _, rfl, .ty T, (h1.get g1 ed).ty nd, kit_ty (tyOk_at hT d), q _ S1 H1 k1 g1 (R.bl _)⟩) q⟩,
   e1_mo (fun d p p' h q => ⟨q.1, h _ q.2⟩) ha.mo⟩
end
end DL

/-! DL9: list comprehensions; methods of owned lists; stores. -/
namespace DL
open PySem PySem.Spec PyProof.Rows L2

def wipeE (ρ : Env) : List Nat → Env
  | [] => ρ
  | v :: vs => (wipeE ρ vs).set v .un
def oldSl : Option Sl → Sl
  | some (.d x) => .d x
  | _ => .un
/-- the slots vs as they stood in ρ0 -/
def restE (ρ0 ρ : Env) : List Nat → Env
  | [] => ρ
  | v :: vs => (restE ρ0 ρ vs).set v (oldSl ρ0[v]?)
theorem wipeE_length (ρ : Env) : ∀ vs, (wipeE ρ vs).length = ρ.length
  | [] => rfl
  | v :: vs => by unfold wipeE; rw [List.length_set, wipeE_length ρ vs]
theorem restE_length (ρ0 ρ : Env) : ∀ vs, (restE ρ0 ρ vs).length = ρ.length
  | [] => rfl
  | v :: vs => by unfold restE; rw [List.length_set, restE_length ρ0 ρ vs]
theorem restE_get {ρ0 ρ : Env} {i : Nat} {x : Sl} : ∀ {vs : List Nat}, (restE ρ0 ρ vs)[i]? = some x → (i ∉ vs ∧ ρ[i]? = some x) ∨ (i ∈ vs ∧ x = oldSl ρ0[i]?)
  | [], h => .inl ⟨by simp, h⟩
  | v :: vs, h => by
    unfold restE at h
    rw [List.getElem?_set] at h
    by_cases c : v = i
    · rw [if_pos c] at h
      split at h
      · cases h; exact .inr ⟨by rw [c]; exact List.mem_cons_self, by rw [c]⟩
      · cases h
    · rw [if_neg c] at h
      rcases restE_get h with ⟨h1, h2⟩ | ⟨h1, h2⟩
      · exact .inl ⟨fun m => (List.mem_cons.mp m).elim (fun e => c e.symm) h1, h2⟩
      · exact .inr ⟨List.mem_cons_of_mem _ h1, h2⟩
theorem wipe_get {σ : L2.St} {i : Nat} : ∀ {vs : List Nat}, i ∉ vs → (wipe σ vs)[i]? = σ[i]?
  | [], _ => rfl
  | v :: vs, h => by
    unfold wipe
    rw [List.getElem?_set, if_neg fun e => h (by rw [← e]; exact List.mem_cons_self)]
    exact wipe_get fun m => h (List.mem_cons_of_mem _ m)
theorem wipe_wiped {σ : L2.St} {i : Nat} : ∀ {vs : List Nat}, i ∈ vs → i < σ.length → (wipe σ vs)[i]? = some none
  | v :: vs, h, hl => by
    unfold wipe
    rw [List.getElem?_set]
    by_cases c : v = i
    · rw [if_pos c, if_pos (by rw [wipe_length, c]; exact hl)]
    · rw [if_neg c]
      rcases List.mem_cons.mp h with e | h
      · exact absurd e.symm c
      · exact wipe_wiped h hl
theorem wipe_eq {σ σ' : L2.St} {vs : List Nat} (hl : σ'.length = σ.length) (h : ∀ j, j ∉ vs → σ'[j]? = σ[j]?) : wipe σ' vs = wipe σ vs := by
  apply List.ext_getElem?
  intro i
  by_cases m : i ∈ vs
  · by_cases hi : i < σ.length
    · rw [wipe_wiped m (by rw [hl]; exact hi), wipe_wiped m hi]
    · rw [List.getElem?_eq_none (by rw [wipe_length, hl]; omega), List.getElem?_eq_none (by rw [wipe_length]; omega)]
  · rw [wipe_get m, wipe_get m, h i m]
theorem wipe_wipe {σ : L2.St} {vs : List Nat} : wipe (wipe σ vs) vs = wipe σ vs := wipe_eq (wipe_length _ _) fun _ m => wipe_get m
section
variable {B : BI} {S S' : List Addr} {σ : L2.St} {H H' : Hp} {ρ ρ' : Env}
theorem SR.wipes (h : SR B S σ H ρ) : ∀ vs, SR B S (L2.wipe σ vs) H (DL.wipeE ρ vs)
  | [] => h
  | v :: vs => by unfold L2.wipe DL.wipeE; exact SR.wipe (SR.wipes h vs) v none
/-- behind a comprehension: its own names are as they were -/
theorem SR.rest {vs : List Nat} (hd : ∀ (i : Nat) (d : D), ρ[i]? = some (.d d) → ∃ v, σ[i]? = some (some v) ∧ R B.K S H v d) (k : Kp S H S' H') (h' : SR B S' (L2.wipe σ vs) H' ρ') : SR B S' σ H' (restE ρ ρ' vs) := by
  obtain ⟨fps, h1, h2⟩ := id h'.own
  have old : ∀ (i : Nat) (f : Bool) (o : O), (restE ρ ρ' vs)[i]? = some (.own f o) → i ∉ vs ∧ ρ'[i]? = some (.own f o) := fun i f o e => by
    rcases restE_get e with q | ⟨_, q⟩
    · exact q
    · unfold oldSl at q; split at q <;> cases q
  refine { len := by rw [restE_length, h'.len, wipe_length], dat := fun i d e => ?_, own := ⟨fps, fun i f o e => ?_, fun i j f o g o' hij e1 e2 => h2 i j _ _ _ _ hij (old _ _ _ e1).2 (old _ _ _ e2).2⟩, keep := h'.keep, trk := h'.trk, sub := h'.sub, there := h'.there, fsub := h'.fsub, pin := h'.pin }
  · rcases restE_get e with ⟨q1, q2⟩ | ⟨q1, q2⟩
    · obtain ⟨v, e1, e2⟩ := h'.dat i d q2
      exact ⟨v, by rw [← wipe_get q1]; exact e1, e2⟩
    · cases eo : ρ[i]? with
      | none => rw [eo] at q2; cases q2
      | some sl =>
        rw [eo] at q2
        cases sl with
        | un => cases q2
        | own f o => cases q2
        | d x =>
          cases q2
          obtain ⟨v, e1, e2⟩ := hd i d eo
          exact ⟨v, e1, e2.kp k⟩
  · obtain ⟨q1, q2⟩ := old i f o e
    obtain ⟨v, e1, e2⟩ := h1 i f o q2
    exact ⟨v, by rw [← wipe_get q1]; exact e1, e2⟩
end

/-- the turns of a list comprehension -/
def lcW (p : Pat) (tt : ETT) (te : ET) (vs : List Nat) (fin : List D → Env → Prop) : List D → List D → Env → Prop
  | [], acc, ρ => fin acc ρ
  | d :: r, acc, ρ => bindW p d ρ fun ρ1 => tt ρ1 fun b ρ2 => if b = true then te ρ2 fun o ρ3 => (match o with
      | .v x => lcW p tt te vs fin r (acc ++ [x]) (wipeE ρ3 vs)
      | .s _ => False) else lcW p tt te vs fin r acc (wipeE ρ2 vs)
theorem lcW_mono {p : Pat} {tt : ETT} {te : ET} {vs : List Nat} (mt : MoT tt) (me : MoE te) {fin fin' : List D → Env → Prop} (h : ∀ a ρ, fin a ρ → fin' a ρ) : ∀ (ds acc : List D) (ρ : Env), lcW p tt te vs fin ds acc ρ → lcW p tt te vs fin' ds acc ρ
  | [], acc, ρ, q => h _ _ q
  | d :: r, acc, ρ, q => bindW_mono (fun ρ1 q => mt _ _ _ (fun b ρ2 q => ite_mono (fun q => me _ _ _ (fun o ρ3 q => by
      cases o with
      | v x => exact lcW_mono mt me h r _ _ q
      | s i => exact q) q) (fun q => lcW_mono mt me h r _ _ q) q) q) q
def eLc (ti : IT) (p : Pat) (tt : ETT) (te : ET) (vs : List Nat) : ET := fun ρ q => ti ρ fun ds ρ1 => lcW p tt te vs (fun acc ρ2 => q (.v (.list acc)) (restE ρ1 ρ2 vs)) ds [] (wipeE ρ1 vs)
def oLc (ti : IT) (p : Pat) (tt : ETT) (te : ET) (vs : List Nat) : OT := fun ρ q => ti ρ fun ds ρ1 => lcW p tt te vs (fun acc ρ2 => q (.lst acc) (restE ρ1 ρ2 vs)) ds [] (wipeE ρ1 vs)
/-- no test, one test -/
def tYesD : ETT := fun ρ p => p true ρ
structure DTs (X : Cx) (B : BI) (ifs : List Expr) (t : ETT) : Prop where
  pts : PTs X ifs (bT B t)
  mo : MoT t
theorem dts_nil {X : Cx} {B : BI} : DTs X B [] tYesD := ⟨⟨fun pins s σ H Q I ⟨S, ρ, g, q⟩ => pts_nil.run pins s σ H Q I (q S H (Kp.refl _ _) g)⟩, fun ρ p p' h q => h _ _ q⟩
theorem dts_one {X : Cx} {B : BI} {c : Expr} {t : ETT} (h : DT X B c t) : DTs X B [c] t := ⟨pts_one h.pt, h.mo⟩
abbrev BI.pin (B : BI) (fr : List (Addr × HO)) : BI := { B with fr := fr }
section
variable {X : Cx} {B : BI} {elt tg iter : Expr} {ifs : List Expr} {scope : Scope} {own : List (Str × Nat)} {pos : Pos} {ti : IT} {tt : ETT} {te : ET} {p : Pat}
/-- the heap's reading of a comprehension from the one over data; fin: what is wanted of the new list (it stands at D, set aside) -/
theorem lc_of (hp : ∀ j ∈ p.slots, j ∈ own.map (·.2)) (mi : MoI ti) (mt : MoT tt) (me : MoE te) {σ : L2.St} {H : Hp} {Q : VK} {S : List Addr} {ρ : Env} (g : SR B S σ H ρ) (fin : List D → Env → Prop)
    (hfin : ∀ acc ρ' xs D S2 H2, SR (B.pin ((D, .lst xs) :: B.fr)) S2 σ H2 ρ' → RA B.K S2 H2 xs acc → acc.length ≤ sizeLine → Kp S H S2 H2 → B.H0 D = none → (∀ p ∈ B.fr, p.1 ≠ D) → fin acc ρ' → Q (.ref D) H2)
    (q : ti ρ fun ds ρ1 => lcW p tt te (own.map (·.2)) (fun acc ρ2 => fin acc (restE ρ1 ρ2 (own.map (·.2)))) ds [] (wipeE ρ1 (own.map (·.2)))) :
    tLc (iE B ti) (p.tg B.K) (fun σ H Q => ∃ fr, bT (B.pin fr) tt σ H Q) (fun σ H Q => ∃ fr, bE (B.pin fr) te σ H Q) (own.map (·.2)) σ H Q := by
  generalize hvs : own.map (·.2) = vs at *
  refine ⟨S, ρ, g, mi _ _ _ (fun ds ρ1 q J S1 H1 k1 g1 at1 D hD => ?_) q⟩
  have h0 : B.H0 D = none := g1.fresh0 hD
  have hfr : ∀ p ∈ B.fr, p.1 ≠ D := fun p hp e => by
    have := (g1.pin p hp).1
    rw [e, hD] at this; cases this
  let St (i : Nat) (H2 : Hp) : Prop := ∃ S2 ρ2 acc xs, SR (B.pin ((D, .lst xs) :: B.fr)) S2 (L2.wipe σ vs) H2 ρ2 ∧ Kp S1 H1 S2 H2 ∧ RA B.K S2 H2 xs acc ∧ acc.length ≤ i ∧ lcW p tt te vs (fun acc ρ2 => fin acc (restE ρ1 ρ2 vs)) (ds.drop i) acc ρ2
  have s0 : Same H1 (upd H1 D (.lst [])) := same_new hD
  refine ⟨fun i m H2 => m = ds.length - i ∧ i ≤ ds.length ∧ St i H2, ⟨ds.length, by omega, Nat.zero_le _, D :: S1, wipeE ρ1 vs, [], [], (g1.wipes vs).pinned hD, kp_newL (fp := [D]) s0 (fun a ha => by rw [List.mem_singleton.mp ha]; exact hD), .nil, Nat.zero_le _, q⟩, ?_⟩
  rintro i m H2 ⟨rfl, hi, S2, ρ2, acc, xs, g2, k2, ra, hacc, q2⟩
  by_cases hlt : i < ds.length
  · obtain ⟨go, yl⟩ := (at1.2 i S2 H2 k2 g2.trk).1 hlt
    refine .inr ⟨go, St (i + 1), fun H' st => ⟨ds.length - (i + 1), by omega, rfl, hlt, st⟩, fun x H' hy => ?_⟩
    obtain ⟨sm, d, ed, rd⟩ := yl x H' hy
    rw [List.drop_eq_getElem_cons hlt] at q2
    have ed' : ds[i] = d := by rw [List.getElem?_eq_getElem hlt] at ed; exact Option.some.inj ed
    rw [ed'] at q2
    have q2 : bindW p d ρ2 _ := q2
    unfold bindW at q2
    split at q2
    · rename_i ρ3 e3
      refine Pat.serve (B := B.pin ((D, .lst xs) :: B.fr)) p d x ρ2 ρ3 _ _ (g2.same sm) rd e3 fun σ3 g3 l3 j3 => ?_
      have hw : L2.wipe σ3 vs = L2.wipe σ vs := (wipe_eq l3 fun j hj => j3 j fun m => hj (hp j m)).trans wipe_wipe
      refine ⟨hw, _, S2, ρ3, g3, mt _ _ _ (fun b ρ4 q4 S4 H4 k4 g4 => ?_) q2⟩
      have kk : Kp S1 H1 S4 H4 := (k2.trans (Kp.same sm)).trans k4
      refine ite_mono (fun q4 => ?_) (fun q4 => ?_) q4
      · refine ⟨_, S4, ρ4, g4, me _ _ _ (fun o ρ5 q5 y S5 H5 k5 g5 h5 => ?_) q4⟩
        cases o with
        | s j => exact q5.elim
        | v z =>
          have len : xs.length < sizeLine := by
            have e1 := ra.length
            have e2 := at1.1
            omega
          refine ⟨xs, (g5.pin (D, .lst xs) List.mem_cons_self).1, len, ?_⟩
          obtain ⟨g6, k6⟩ := g5.repin (o' := .lst (xs ++ [y])) hfr h0
          refine ⟨S5, wipeE ρ5 vs, acc ++ [z], xs ++ [y], ?_, (kk.trans k5).trans k6, ?_, by rw [List.length_append]; exact Nat.succ_le_succ hacc, q5⟩
          · have := g6.wipes vs
            rw [hw] at this
            exact this
          · exact ((((ra.kp (Kp.same sm)).kp k4).kp k5).kp k6).append (.one (R.kp k6 h5))
      · refine ⟨S4, wipeE ρ4 vs, acc, xs, ?_, kk, (ra.kp (Kp.same sm)).kp k4, by omega, q4⟩
        have := g4.wipes vs
        rw [hw] at this
        exact this
    · exact q2.elim
  · have ei : i = ds.length := by omega
    refine .inl ⟨(at1.2 i S2 H2 k2 g2.trk).2 (by omega), ?_⟩
    rw [List.drop_of_length_le (by omega)] at q2
    refine hfin acc _ xs D S2 H2 (SR.rest (S := S1) (H := H1) g1.dat k2 g2) ra (Nat.le_trans hacc (by rw [ei]; exact at1.1)) (k1.trans k2) h0 hfr q2
/-- a new list that was set aside is data -/
theorem SR.takeD {S : List Addr} {σ : L2.St} {H : Hp} {ρ : Env} {a : Addr} {xs : List V} {acc : List D} (h : SR (B.pin ((a, .lst xs) :: B.fr)) S σ H ρ) (ra : RA B.K S H xs acc) (hl : acc.length ≤ sizeLine) (h0 : B.H0 a = none) (hf : ∀ p ∈ B.fr, p.1 ≠ a) :
    ∃ S', Kp S H S' H ∧ SR B S' σ H ρ ∧ R B.K S' H (.ref a) (.list acc) := by
  have sub : ∀ b ∈ S.filter (fun b => !(b == a)), b ∈ S ∧ b ≠ a := fun b hb => by
    obtain ⟨q1, q2⟩ := List.mem_filter.mp hb
    exact ⟨q1, fun e => by simp [e] at q2⟩
  have kp : Kp S H (S.filter fun b => !(b == a)) H := Kp.sub fun b hb => (sub b hb).1
  refine ⟨_, kp, SR.unpin (B := B) (fr := (a, .lst xs) :: B.fr) (fr' := B.fr) h (fun p hp => List.mem_cons_of_mem _ hp) (fun b hb => (sub b hb).1) (fun b hb n => ?_) (fun p hp n => ?_) (fun p hp q hq n => ?_), .lst (.inl ⟨fun m => (sub a m).2 rfl, .inl (h.pin (a, .lst xs) List.mem_cons_self).1⟩) (ra.kp kp) hl⟩
  · refine ⟨(a, .lst xs), List.mem_cons_self, ?_, fun m => hf _ m rfl⟩
    by_cases c : b = a
    · exact c.symm
    · exact absurd (List.mem_filter.mpr ⟨hb, by simp [c]⟩) n
  · rcases List.mem_cons.mp hp with rfl | hp
    · exact h0
    · exact absurd hp n
  · rcases List.mem_cons.mp hq with rfl | hq
    · exact hf p hp
    · exact absurd hq n
theorem pinT {c : Expr} {t : TT} {X : Cx} {f : List (Addr × HO) → TT} (h : ∀ fr, PTs X ifs (f fr)) : PTs X ifs (fun σ H Q => ∃ fr, f fr σ H Q) := ⟨fun pins s σ H Q I ⟨fr, q⟩ => (h fr).run pins s σ H Q I q⟩
theorem pinE {X : Cx} {f : List (Addr × HO) → TE} (h : ∀ fr, PE X elt (f fr)) : PE X elt (fun σ H Q => ∃ fr, f fr σ H Q) := ⟨fun pins s σ H Q I ⟨fr, q⟩ => (h fr).run pins s σ H Q I q⟩
theorem lc_base (hK : B.K = X.K) (hc : X.calm = true) (hN : X.N.Nodup) (hi : DI X B tg iter ti) (ok : BlkOk X.N X.env.scope scope own)
    (hg : ∀ (s : Shared) (H : Hp) (C : Addr) (cl : List (Str × Addr)) (fp : List Addr), PG (X.blk s H scope (compEnvC scope cl C X.env) fp) tg (p.tg X.K))
    (ht : ∀ (s : Shared) (H : Hp) (C : Addr) (cl : List (Str × Addr)) (fp : List Addr) (fr : List (Addr × HO)), DTs (X.blk s H scope (compEnvC scope cl C X.env) fp) (B.pin fr) ifs tt)
    (he : ∀ (s : Shared) (H : Hp) (C : Addr) (cl : List (Str × Addr)) (fp : List Addr) (fr : List (Addr × HO)), DE (X.blk s H scope (compEnvC scope cl C X.env) fp) (B.pin fr) elt te) (hs : ∀ x, foldedSetIterable iter X.env x = pure x := by intro _; rfl) :
    PE X (.ListComp elt [⟨tg, iter, ifs, 0⟩] scope pos) (tLc (iE B ti) (p.tg B.K) (fun σ H Q => ∃ fr, bT (B.pin fr) tt σ H Q) (fun σ H Q => ∃ fr, bE (B.pin fr) te σ H Q) (own.map (·.2))) := by
  rw [hK]
  exact pe_lc hc hN hi.pi ok hg (fun s H C cl fp => ⟨fun pins s' σ H' Q I ⟨fr, q⟩ => (ht s H C cl fp fr).pts.run pins s' σ H' Q I q⟩) (fun s H C cl fp => ⟨fun pins s' σ H' Q I ⟨fr, q⟩ => (he s H C cl fp fr).pe.run pins s' σ H' Q I q⟩) hs
/-- [e for x in xs if t], as data -/
theorem d_lc (hK : B.K = X.K) (hc : X.calm = true) (hN : X.N.Nodup) (hi : DI X B tg iter ti) (ok : BlkOk X.N X.env.scope scope own) (hp : ∀ j ∈ p.slots, j ∈ own.map (·.2))
    (hg : ∀ (s : Shared) (H : Hp) (C : Addr) (cl : List (Str × Addr)) (fp : List Addr), PG (X.blk s H scope (compEnvC scope cl C X.env) fp) tg (p.tg X.K))
    (ht : ∀ (s : Shared) (H : Hp) (C : Addr) (cl : List (Str × Addr)) (fp : List Addr) (fr : List (Addr × HO)), DTs (X.blk s H scope (compEnvC scope cl C X.env) fp) (B.pin fr) ifs tt)
    (he : ∀ (s : Shared) (H : Hp) (C : Addr) (cl : List (Str × Addr)) (fp : List Addr) (fr : List (Addr × HO)), DE (X.blk s H scope (compEnvC scope cl C X.env) fp) (B.pin fr) elt te) (hs : ∀ x, foldedSetIterable iter X.env x = pure x := by intro _; rfl) :
    DE X B (.ListComp elt [⟨tg, iter, ifs, 0⟩] scope pos) (eLc ti p tt te (own.map (·.2))) := by
  have mt : MoT tt := (ht X.s_0 X.H_0 0 [] [] []).mo
  have me : MoE te := (he X.s_0 X.H_0 0 [] [] []).mo
  refine ⟨peOf (lc_base hK hc hN hi ok hg ht he hs) fun σ H Q ⟨S, ρ, g, q⟩ => lc_of hp hi.mo mt me g (fun acc ρ' => ∀ x S' H', Kp S H S' H' → SR B S' σ H' ρ' → OpAt B S' σ H' x (.v (.list acc)) → Q x H') (fun acc ρ' xs D S2 H2 g2 ra hl k2 h0 hf q2 => ?_) q, fun ρ q q' h r => hi.mo _ _ _ (fun ds ρ1 r => lcW_mono mt me (fun acc ρ2 r => h _ _ r) ds _ _ r) r⟩
  obtain ⟨S', k', g', r'⟩ := g2.takeD ra hl h0 hf
  exact q2 _ S' H2 (k2.trans k') g' r'
/-- .. as a list of the def's own -/
theorem do_lc (hK : B.K = X.K) (hc : X.calm = true) (hN : X.N.Nodup) (hi : DI X B tg iter ti) (ok : BlkOk X.N X.env.scope scope own) (hp : ∀ j ∈ p.slots, j ∈ own.map (·.2))
    (hg : ∀ (s : Shared) (H : Hp) (C : Addr) (cl : List (Str × Addr)) (fp : List Addr), PG (X.blk s H scope (compEnvC scope cl C X.env) fp) tg (p.tg X.K))
    (ht : ∀ (s : Shared) (H : Hp) (C : Addr) (cl : List (Str × Addr)) (fp : List Addr) (fr : List (Addr × HO)), DTs (X.blk s H scope (compEnvC scope cl C X.env) fp) (B.pin fr) ifs tt)
    (he : ∀ (s : Shared) (H : Hp) (C : Addr) (cl : List (Str × Addr)) (fp : List Addr) (fr : List (Addr × HO)), DE (X.blk s H scope (compEnvC scope cl C X.env) fp) (B.pin fr) elt te) (hs : ∀ x, foldedSetIterable iter X.env x = pure x := by intro _; rfl) :
    DO X B (.ListComp elt [⟨tg, iter, ifs, 0⟩] scope pos) (oLc ti p tt te (own.map (·.2))) := by
  have mt : MoT tt := (ht X.s_0 X.H_0 0 [] [] []).mo
  have me : MoE te := (he X.s_0 X.H_0 0 [] [] []).mo
  refine ⟨peOf (lc_base hK hc hN hi ok hg ht he hs) fun σ H Q ⟨S, ρ, g, q⟩ => lc_of hp hi.mo mt me g (fun acc ρ' => ∀ x S1 H' fp ct, Kp S H S1 H' → SR { B with fr := pinsOf fp ct ++ B.fr } S1 σ H' ρ' → OwnP B.K S1 H' x (.lst acc) fp → (∀ a ∈ fp, B.H0 a = none) → (∀ p ∈ B.fr, p.1 ∉ fp) → Q x H') (fun acc ρ' xs D S2 H2 g2 ra hl k2 h0 hf q2 => ?_) q, fun ρ q q' h r => hi.mo _ _ _ (fun ds ρ1 r => lcW_mono mt me (fun acc ρ2 r => h _ _ r) ds _ _ r) r⟩
  exact q2 _ S2 H2 [D] (fun _ => .lst xs) k2 g2 ⟨rfl, hl, xs, (g2.pin (D, .lst xs) List.mem_cons_self).1, ra⟩ (fun a ha => by rw [List.mem_singleton.mp ha]; exact h0) fun p hp m => hf p hp (List.mem_singleton.mp m)
end
end DL

/-! DL10: owned lists: their methods, stores into them. -/
namespace DL
open PySem PySem.Spec PyProof.Rows L2

abbrev WM := O → List D → (D → O → Prop) → Prop
def MoWM (w : WM) : Prop := ∀ o ds p p', (∀ d o', p d o' → p' d o') → w o ds p → w o ds p'
def SvM (K : PySem.W.Frag) (r : V → List V → Hp → VK → Prop) (w : WM) : Prop := ∀ (S : List Addr) (H : Hp) (p : Addr) (o : O) (fp : List Addr) (vs : List V) (ds : List D) (Q : VK), OwnP K S H (.ref p) o fp → (∀ a ∈ fp, a ∈ S) → RA K S H vs ds →
  w o ds (fun d o' => ∀ v H', (∀ a, a ∉ fp → H' a = H a) → OwnP K S H' (.ref p) o' fp → R K S H' v d → Q v H') → r (.ref p) vs H Q
/-- the slot holds a list of the def's own -/
def isOwnL (ρ : Env) (i : Nat) : Bool := match ρ[i]? with
  | some (.own _ (.lst _)) => true
  | _ => false
def wOwn (ρ : Env) (i : Nat) (p : Bool → O → Prop) : Prop := match ρ[i]? with
  | some (.own f o) => p f o
  | _ => False
theorem wOwn_inv {ρ : Env} {i : Nat} {p : Bool → O → Prop} (h : wOwn ρ i p) : ∃ f o, ρ[i]? = some (.own f o) ∧ p f o := by
  unfold wOwn at h
  split at h
  · rename_i f o e; exact ⟨f, o, e, h⟩
  · exact h.elim
theorem wOwn_mono {ρ : Env} {i : Nat} {p p' : Bool → O → Prop} (i' : ∀ f o, p f o → p' f o) (h : wOwn ρ i p) : wOwn ρ i p' := by
  unfold wOwn at *
  split at h
  · exact i' _ _ h
  · exact h
def eM (i : Nat) (w : WM) (ta : ETA) : ET := fun ρ p => isOwnL ρ i = true ∧ ta ρ fun os ρ1 => wDs (allD os) fun ds => wOwn ρ1 i fun f o => w o ds fun d o' => p (.v d) (ρ1.set i (.own f o'))
theorem eM_mo {i : Nat} {w : WM} {ta : ETA} (mw : MoWM w) (ma : MoA ta) : MoE (eM i w ta) := fun ρ p p' h q => ⟨q.1, ma _ _ _ (fun os ρ1 q => wDs_mono (fun ds q => wOwn_mono (fun f o q => mw _ _ _ _ (fun d o' q => h _ _ q) q) q) q) q.2⟩
section
variable {X : Cx} {B : BI} {x name : Str} {p apos pos : Pos} {e : Expr} {es : List Expr} {ta : ETA} {w : WM} {r : V → List V → Hp → VK → Prop} {id : String} {i : Nat}
theorem own_at {S : List Addr} {σ : L2.St} {H : Hp} {ρ : Env} (g : SR B S σ H ρ) (h : isOwnL ρ i = true) : ∃ a xs, σ[i]? = some (some (.ref a)) ∧ H a = some (.lst xs) := by
  unfold isOwnL at h
  split at h
  · rename_i f ds e
    obtain ⟨fps, h1, _⟩ := g.own
    obtain ⟨v, e1, w, _⟩ := h1 i _ _ e
    cases v <;> first | exact w.elim | skip
    obtain ⟨_, _, xs, q, _⟩ := w
    exact ⟨_, xs, e1, q⟩
  · cases h
theorem meth_of (mw : MoWM w) (sv : SvM B.K r w) (hA : MoA ta) {σ : L2.St} {H : Hp} {Q : VK} (h : bE B (eM i w ta) σ H Q) : tBM B.K "list" r (tVar i) (bA B ta) σ H Q := by
  obtain ⟨S, ρ, g, hl, q⟩ := h
  obtain ⟨a, xs, e1, e2⟩ := own_at g hl
  refine ⟨.ref a, e1, .inl ⟨rfl, xs, SqL.of e2⟩, S, ρ, g, hA _ _ _ (fun os ρ1 q vs S1 H1 k1 g1 h1 => ?_) q⟩
  obtain ⟨ds, ed, q⟩ := wDs_inv q
  obtain ⟨f, o, eo, q⟩ := wOwn_inv q
  obtain ⟨v, fp, ev, w1, hS, up⟩ := g1.updO eo
  rw [e1] at ev; cases ev
  refine sv S1 H1 a o fp vs ds Q w1 hS (h1.all ed) (mw _ _ _ _ (fun d o' q v H' hk w2 rv => ?_) q)
  obtain ⟨k2, g2⟩ := up H' o' hk w2
  exact q v S1 H' (k1.trans k2) g2 rv
theorem d_meth (hK : B.K = X.K) (mw : MoWM w) (sv : SvM B.K r w) (slot : Slot "list" name id) (hty : typeOf (.builtin id) = pure (.type "method_descriptor")) (hm : MtR X id r) (hN : X.N[i]? = some x) (hv : Vis X.env.scope x) (hd : (x == ("__debug__" : Str)) = false) (hcd : (x == ("__classdict__" : Str)) = false)
    (ha : DA X B (e :: es) ta) (hpe : PE X (.Call (.Attribute (.Name x p) name apos) (e :: es) [] pos) (tBM X.K "list" r (tVar i) (bA B ta))) : DE X B (.Call (.Attribute (.Name x p) name apos) (e :: es) [] pos) (eM i w ta) :=
  ⟨peOf hpe fun _ _ _ q => by rw [← hK]; exact meth_of mw sv ha.mo q, eM_mo mw ha.mo⟩
def wAppend : WM
  | .lst xs, [d], q => xs.length < sizeLine ∧ q .none (.lst (xs ++ [d]))
  | _, _, _ => False
def wPop : WM
  | .lst xs, [], q => (match xs[xs.length - 1]? with
    | some d => q d (.lst xs.dropLast)
    | none => False)
  | _, _, _ => False
def wPopAt : WM
  | .lst xs, [.int i], q => -(2 ^ 63) ≤ i ∧ i < 2 ^ 63 ∧ (match seqIndex? i xs.length with
    | some k => (match xs[k]? with
      | some d => q d (.lst (xs.eraseIdx k))
      | none => False)
    | none => False)
  | _, _, _ => False
theorem wAppend_mo : MoWM wAppend := fun o ds p p' h q => by
  unfold wAppend at *; split at q <;> first | exact ⟨q.1, h _ _ q.2⟩ | exact q
theorem wPop_mo : MoWM wPop := fun o ds p p' h q => by
  unfold wPop at *
  split at q
  · split at q
    · exact h _ _ q
    · exact q
  · exact q
theorem wPopAt_mo : MoWM wPopAt := fun o ds p p' h q => by
  unfold wPopAt at *
  split at q
  · refine ⟨q.1, q.2.1, ?_⟩
    have q := q.2.2
    split at q
    · split at q
      · exact h _ _ q
      · exact q
    · exact q
  · exact q
theorem kp_own {S fp : List Addr} {H H' : Hp} (hS : ∀ a ∈ fp, a ∈ S) (h : ∀ a, a ∉ fp → H' a = H a) : Kp S H S H' := fun a o n e => ⟨n, by rw [h a fun m => n (hS a m)]; exact e⟩
theorem upd_off {H : Hp} {p : Addr} {o : HO} : ∀ a, a ∉ [p] → upd H p o a = H a := fun a n => upd_ne fun e => n (List.mem_singleton.mpr e)
theorem sv_append {K : PySem.W.Frag} : SvM K rAppend wAppend := fun S H p o fp vs ds Q w hS ra h => by
  unfold wAppend at h
  split at h
  · rename_i xs d
    obtain ⟨rfl, hl, us, e, rx⟩ := w
    cases ra with
    | @cons v _ _ _ r t =>
      cases t
      have k : Kp S H S (upd H p (.lst (us ++ [v]))) := kp_own hS upd_off
      have l := rx.length
      exact ⟨p, us, _, rfl, rfl, e, by rw [l]; exact h.1, h.2 _ _ upd_off ⟨rfl, by rw [List.length_append]; exact h.1, _, upd_same, (rx.append (.one r)).kp k⟩ .non⟩
  · exact h.elim
theorem sv_pop {K : PySem.W.Frag} : SvM K rPop wPop := fun S H p o fp vs ds Q w hS ra h => by
  unfold wPop at h
  split at h
  · rename_i xs
    obtain ⟨rfl, hl, us, e, rx⟩ := w
    cases ra
    split at h
    · rename_i d ed
      obtain ⟨v, e1, rv⟩ := rx.get ed
      have k : Kp S H S (upd H p (.lst us.dropLast)) := kp_own hS upd_off
      refine ⟨p, us, v, rfl, rfl, e, by rw [rx.length]; exact e1, h _ _ upd_off ⟨rfl, ?_, _, upd_same, rx.dropLast.kp k⟩ (R.kp k rv)⟩
      rw [List.length_dropLast]; omega
    · exact h.elim
  · exact h.elim
theorem sv_popAt {K : PySem.W.Frag} : SvM K rPopAt wPopAt := fun S H p o fp vs ds Q w hS ra h => by
  unfold wPopAt at h
  split at h
  · rename_i xs i
    obtain ⟨rfl, hl, us, e, rx⟩ := w
    obtain ⟨h1, h2, h⟩ := h
    cases ra with
    | cons r t =>
      cases t
      cases r
      split at h
      · rename_i k ek
        split at h
        · rename_i d ed
          obtain ⟨v, e1, rv⟩ := rx.get ed
          have kk : Kp S H S (upd H p (.lst (us.eraseIdx k))) := kp_own hS upd_off
          refine ⟨p, us, i, k, v, rfl, rfl, e, h1, h2, by rw [rx.length]; exact ek, e1, h _ _ upd_off ⟨rfl, ?_, _, upd_same, (rx.eraseIdx k).kp kk⟩ (R.kp kk rv)⟩
          exact Nat.le_trans (len_erase xs k) hl
        · exact h.elim
      · exact h.elim
  · exact h.elim
/-- x.append(e) -/
theorem d_append (hK : B.K = X.K) (i : Nat) (hN : X.N[i]? = some x := by rfl) (ha : DA X B (e :: es) ta) (hv : Vis X.env.scope x := by first | exact Or.inl rfl | exact Or.inr (Or.inl rfl) | exact Or.inr (Or.inr rfl)) (hd : (x == ("__debug__" : Str)) = false := by decide) (hcd : (x == ("__classdict__" : Str)) = false := by decide)
    (hpe : ∀ t : TA, PA X (e :: es) t → PE X (.Call (.Attribute (.Name x p) "append" apos) (e :: es) [] pos) (tBM X.K "list" rAppend (tVar i) t) := by exact fun t h => pe_bm PySem.F.plainAttrs_list PySem.F.slot_list_append PySem.F.type_list_append mt_append (pv _) h) :
    DE X B (.Call (.Attribute (.Name x p) "append" apos) (e :: es) [] pos) (eM i wAppend ta) := ⟨peOf (hpe _ ha.pa) fun _ _ _ q => by rw [← hK]; exact meth_of wAppend_mo sv_append ha.mo q, eM_mo wAppend_mo ha.mo⟩
theorem d_popAt (hK : B.K = X.K) (i : Nat) (hN : X.N[i]? = some x := by rfl) (ha : DA X B (e :: es) ta) (hv : Vis X.env.scope x := by first | exact Or.inl rfl | exact Or.inr (Or.inl rfl) | exact Or.inr (Or.inr rfl)) (hd : (x == ("__debug__" : Str)) = false := by decide) (hcd : (x == ("__classdict__" : Str)) = false := by decide)
    (hpe : ∀ t : TA, PA X (e :: es) t → PE X (.Call (.Attribute (.Name x p) "pop" apos) (e :: es) [] pos) (tBM X.K "list" rPopAt (tVar i) t) := by exact fun t h => pe_bm PySem.F.plainAttrs_list PySem.F.slot_list_pop PySem.F.type_list_pop mt_popAt (pv _) h) :
    DE X B (.Call (.Attribute (.Name x p) "pop" apos) (e :: es) [] pos) (eM i wPopAt ta) := ⟨peOf (hpe _ ha.pa) fun _ _ _ q => by rw [← hK]; exact meth_of wPopAt_mo sv_popAt ha.mo q, eM_mo wPopAt_mo ha.mo⟩
/-- x.pop() -/
def eM0 (i : Nat) (w : WM) : ET := fun ρ p => isOwnL ρ i = true ∧ wOwn ρ i fun f o => w o [] fun d o' => p (.v d) (ρ.set i (.own f o'))
theorem d_pop (hK : B.K = X.K) (i : Nat) (hN : X.N[i]? = some x := by rfl) (hv : Vis X.env.scope x := by first | exact Or.inl rfl | exact Or.inr (Or.inl rfl) | exact Or.inr (Or.inr rfl)) (hd : (x == ("__debug__" : Str)) = false := by decide) (hcd : (x == ("__classdict__" : Str)) = false := by decide)
    (hpe : PE X (.Call (.Attribute (.Name x p) "pop" apos) [] [] pos) (tBM0 X.K "list" rPop (tVar i)) := by exact pe_bm0 PySem.F.plainAttrs_list PySem.F.slot_list_pop PySem.F.type_list_pop mt_pop (pv _)) :
    DE X B (.Call (.Attribute (.Name x p) "pop" apos) [] [] pos) (eM0 i wPop) :=
  ⟨peOf hpe fun σ H Q ⟨S, ρ, g, hl, q⟩ => by
    obtain ⟨a, xs, e1, e2⟩ := own_at g hl
    rw [← hK]
    refine ⟨.ref a, e1, .inl ⟨rfl, xs, SqL.of e2⟩, ?_⟩
    obtain ⟨f, o, eo, q⟩ := wOwn_inv q
    obtain ⟨v, fp, ev, w1, hS, up⟩ := g.updO eo
    rw [e1] at ev; cases ev
    refine sv_pop S H a o fp [] [] Q w1 hS .nil (wPop_mo _ _ _ _ (fun d o' q v H' hk w2 rv => ?_) q)
    obtain ⟨k2, g2⟩ := up H' o' hk w2
    exact q v S H' k2 g2 rv, fun ρ p p' h q => ⟨q.1, wOwn_mono (fun f o q => wPop_mo _ _ _ _ (fun d o' q => h _ _ q) q) q.2⟩⟩

/-! ### x[k] = e -/
def sStL (i : Nat) (ti te : ET) : STy := fun D ρ => te ρ fun o ρ1 => isOwnL ρ1 i = true ∧ ti ρ1 fun oi ρ2 => wI oi fun k => wOwn ρ2 i fun f ow => match o, ow with
  | .v d, .lst xs => (match ixN xs.length k with
    | some j => D.nx (ρ2.set i (.own f (.lst (xs.set j d))))
    | none => False)
  | _, _ => False
theorem ds_stL {ki : Expr} {ti te : ET} {v : Expr} {tpos : Pos} (hK : B.K = X.K) (i : Nat) (hN : X.N[i]? = some x) (hi : DE X B ki ti) (he : DE X B v te)
    (hps : ∀ (t1 t2 : TE), PE X ki t1 → PE X v t2 → PS X (.Assign [.Subscript (.Name x p) ki tpos] v pos) (tAsg t2 (gSub (tVar i) t1 rSetL))) : DS X B (.Assign [.Subscript (.Name x p) ki tpos] v pos) (sStL i ti te) :=
  ⟨psOf (hps _ _ hi.pe he.pe) fun D σ H ⟨S, ρ, D', g, l, q⟩ => ⟨S, ρ, g, he.mo _ _ _ (fun o ρ1 q y S1 H1 k1 g1 h1 => by
    obtain ⟨hl, q⟩ := q
    obtain ⟨a, xs0, e1, e2⟩ := own_at g1 hl
    refine ⟨.ref a, e1, S1, ρ1, g1, hi.mo _ _ _ (fun oi ρ2 q z S2 H2 k2 g2 h2 => ?_) q⟩
    obtain ⟨k, ek, q⟩ := wI_inv q
    rw [ek] at h2
    cases (show R B.K S2 H2 z (.int k) from h2)
    obtain ⟨f, ow, eo, q⟩ := wOwn_inv q
    obtain ⟨v, fp, ev, w1, hS, up⟩ := g2.updO eo
    rw [e1] at ev; cases ev
    cases o with
    | s j => exact q.elim
    | v d =>
      cases ow with
      | lst xs =>
        obtain ⟨rfl, hz, us, e3, rx⟩ := w1
        have q : (match ixN xs.length k with
          | some j => D'.nx (ρ2.set i (.own f (.lst (xs.set j d))))
          | none => False) := q
        split at q
        · rename_i j ej
          have rd : R B.K S2 H2 y d := R.kp k2 h1
          have kk : Kp S2 H2 S2 (upd H2 a (.lst (us.set j y))) := kp_own hS upd_off
          obtain ⟨k3, g3⟩ := up (upd H2 a (.lst (us.set j y))) (.lst (xs.set j d)) upd_off ⟨rfl, by rw [List.length_set]; exact hz, _, upd_same, (RA.set rd j rx).kp kk⟩
          exact ⟨a, us, k, j, rfl, rfl, e3, by rw [rx.length]; exact ej, l.nx _ S2 σ _ ((k1.trans k2).trans k3) g3 q⟩
        · exact q.elim
      | dic _ => exact q.elim
      | dit _ => exact q.elim
      | src => exact q.elim) q⟩, fun D D' ρ l q => he.mo _ _ _ (fun o ρ1 q => ⟨q.1, hi.mo _ _ _ (fun oi ρ2 q => wI_mono (fun k q => wOwn_mono (fun f ow q => by
    cases o with
    | s j => exact q
    | v d =>
      cases ow with
      | lst xs =>
        have q : (match ixN xs.length k with
          | some j => D.nx (ρ2.set i (.own f (.lst (xs.set j d))))
          | none => False) := q
        show (match ixN xs.length k with
          | some j => D'.nx (ρ2.set i (.own f (.lst (xs.set j d))))
          | none => False)
        split at q
        · exact l.nx _ q
        · exact q
      | dic _ => exact q
      | dit _ => exact q
      | src => exact q) q) q) q.2⟩) q⟩
end
end DL

/-! DL11: walks over a list or a tuple; tuples backwards; the least tuple; pairs given at once; a raise that is never reached. -/
namespace DL
open PySem PySem.Spec PyProof.Rows L2

/-! ### over a list or a tuple, whichever it is -/
def iSeqV (K : PySem.W.Frag) (tl : TE) : TI := fun σ H J => tl σ H fun x H1 => ∃ a, x = .ref a ∧ (((∃ xs, SqL K H1 a xs) ∧ J (Itl K a) H1) ∨ ((∃ xs, SqT K H1 a xs) ∧ J (Itt K a) H1))
theorem pi_seqV {X : Cx} {tg l : Expr} {tl : TE} (hl : PE X l tl) : PI X tg l (iSeqV X.K tl) := by
  refine ⟨fun pins s σ H J I h => thn (hl.run pins s σ H _ I h) fun v s1 hv => ?_⟩
  obtain ⟨x, H1, I1, r1, a, e, q⟩ := hv
  subst e
  cases r1
  rcases q with ⟨⟨xs, hq⟩, q⟩ | ⟨⟨xs, hq⟩, q⟩
  · obtain ⟨its, rv, p, _⟩ := I1.list hq
    refine wpAny_pyIter_list p.isList ⟨_, [s1.heap.objs.size], _, _, _, rfl, I1.kept (t' := s1.toks) (fun b o e => Heap.get?_push_of_some _ e), turn_list a _, ⟨_, Heap.get?_push_size _ rfl, rfl, rfl⟩, fun b hb => ?_, q⟩
    rw [List.mem_singleton.mp hb]
    exact I1.fpOk (Nat.le_refl _) (I1.hok.fresh (Nat.le_refl _))
  · obtain ⟨its, rv, p, _⟩ := I1.tuple hq
    refine wpAny_pyIter_tuple (items := its.toArray) p ⟨_, [s1.heap.objs.size], _, _, _, rfl, I1.kept (t' := s1.toks) (fun b o e => Heap.get?_push_of_some _ e), turn_tuple a _, ⟨_, Heap.get?_push_size _ rfl, rfl, rfl⟩, fun b hb => ?_, q⟩
    rw [List.mem_singleton.mp hb]
    exact I1.fpOk (Nat.le_refl _) (I1.hok.fresh (Nat.le_refl _))
/-- over a list or a tuple -/
def iAny (te : ET) : IT := fun ρ p => te ρ fun o ρ1 => match o with
  | .v (.list ds) => p ds ρ1
  | .v (.tuple ds) => p ds ρ1
  | _ => False
theorem iAny_mo {te : ET} (me : MoE te) : MoI (iAny te) := fun ρ p p' h q => me _ _ _ (fun o ρ1 q => by
  split at q
  · exact h _ _ q
  · exact h _ _ q
  · exact q) q
theorem di_seq {X : Cx} {B : BI} {tg e : Expr} {te : ET} (hK : B.K = X.K) (he : DE X B e te) : DI X B tg e (iAny te) :=
  ⟨piOf (pi_seqV he.pe) fun σ H Q ⟨S, ρ, g, q⟩ => ⟨S, ρ, g, he.mo _ _ _ (fun o ρ1 q x S1 H1 k1 g1 h1 => by
    split at q
    · rename_i ds
      cases (show R B.K S1 H1 x (.list ds) from h1) with
      | lst h r l => rw [← hK]; exact ⟨_, rfl, .inl ⟨⟨_, LX.sq (h.imp (·.2) id)⟩, q _ S1 H1 k1 g1 (itl_at h r l)⟩⟩
    · rename_i ds
      cases (show R B.K S1 H1 x (.tuple ds) from h1) with
      | tup h r l => rw [← hK]; exact ⟨_, rfl, .inr ⟨⟨_, tq h⟩, q _ S1 H1 k1 g1 (itt_at h r l)⟩⟩
    · exact q.elim) q⟩, iAny_mo he.mo⟩

/-! ### a tuple's [::-1] -/
theorem back_adjust (n : Nat) : Builtin.Slice.sliceAdjust none none (-1) (n : Int) = ((n : Int) - 1, -1) := by
  unfold Builtin.Slice.sliceAdjust
  simp
theorem back_places (n : Nat) : Builtin.Slice.slicePlaces ((n : Int) - 1) (-1) (-1) = n := by
  unfold Builtin.Slice.slicePlaces
  rw [if_neg (by decide)]
  split
  · rw [show (-(-1) : Int) = 1 from rfl, Int.ediv_one]; omega
  · omega
theorem back_pick (xs : Array Value) : ((List.range xs.size).filterMap fun (m : Nat) => xs[((xs.size : Int) - 1 + (m : Int) * -1).toNat]?).toArray = xs.toList.reverse.toArray := by
  congr 1
  apply List.ext_getElem?
  intro i
  have : ∀ n, n ≤ xs.size → (List.range n).filterMap (fun (m : Nat) => xs[((xs.size : Int) - 1 + (m : Int) * -1).toNat]?) = xs.toList.reverse.take n := by
    intro n
    induction n with
    | zero => intro _; rfl
    | succ n ih =>
      intro hn
      rw [List.range_succ, List.filterMap_append, ih (by omega), List.take_add_one]
      congr 1
      have e : ((xs.size : Int) - 1 + (n : Int) * -1).toNat = xs.size - 1 - n := by omega
      have hlt : xs.size - 1 - n < xs.size := by omega
      simp only [List.filterMap_cons, List.filterMap_nil, e]
      rw [Array.getElem?_eq_getElem hlt, List.getElem?_reverse (by rw [Array.length_toList]; omega)]
      simp [Array.getElem?_toList, hlt]
  rw [this _ (Nat.le_refl _), List.take_of_length_le (by simp)]
section
variable {prog : Program} {w : World} {A : Around} {E : Value → Shared → Prop} {s : Shared}
theorem sliceApplied_back {sl : Addr} {vk : Value} {n : Nat} {Q : Int × Int × Nat → Shared → Prop} (hs : s.heap.IsSliceOf sl .none .none vk) (pk : IsPart vk (some (-1)))
    (h : Q ((n : Int) - 1, -1, n) s) : wpAny (model prog w) A (Builtin.Slice.sliceApplied (.ref sl) (pure (n : Int))) Q E s := by
  obtain ⟨os, hos, hcs, hds⟩ := id hs
  unfold Builtin.Slice.sliceApplied Builtin.Slice.sliceFields
  refine wpAny_bind (wpAny_bind (wpAny_field hos hds (x := .none) rfl (wpAny_bind (wpAny_field hos hds (x := .none) rfl (wpAny_bind (wpAny_field hos hds (x := vk) rfl (wpAny_pure ?_)))))))
  refine wpAny_bind (HT.slicePart_ pk ?_)
  show wpAny _ _ (if ((-1 : Int) == 0) = true then _ else _) _ _ s
  rw [if_neg (by decide)]
  refine wpAny_bind (slicePart_none (wpAny_bind (slicePart_none (wpAny_bind (wpAny_pure ?_)))))
  show wpAny _ _ (match Builtin.Slice.sliceAdjust none none (-1) (n : Int) with | (lo, hi) => pure (lo, (-1 : Int), Builtin.Slice.slicePlaces lo hi (-1))) _ _ s
  rw [back_adjust]
  show wpAny _ _ (pure ((n : Int) - 1, (-1 : Int), Builtin.Slice.slicePlaces ((n : Int) - 1) (-1) (-1))) _ _ s
  rw [back_places]
  exact wpAny_pure h
theorem getItem_tuple_back {t sl : Addr} {items : Array Value} {vk : Value} {Q : Value → Shared → Prop} (ht : IsTup s.heap t items) (hs : s.heap.IsSliceOf sl .none .none vk) (pk : IsPart vk (some (-1)))
    (h : Q (.ref s.heap.objs.size) { s with heap := s.heap.push { cls := .type "tuple", data := .seq items.toList.reverse.toArray } })
    (hsz : items.size ≤ sizeLine) : wpAny (model prog w) A (getItem (.ref t) (.ref sl)) Q E s := by
  have htake : sizeOk (.seq items.toList.reverse.toArray) := by
    show items.toList.reverse.toArray.size ≤ sizeLine
    rw [List.size_toArray, List.length_reverse, Array.length_toList]
    exact hsz
  obtain ⟨os, hos, hcs, hds⟩ := id hs
  have hTs : s.TypeIs (.ref sl) "slice" := ⟨os, hos, hcs⟩
  unfold getItem
  try with_reducible refine wpAny_holding ?_
  first | refine wpAny_bind (wpAny_pure ?_) | skip
  refine wpAny_bind (wpAny_sequenceKey ht.typeIs (by decide) ?_)
  refine wpAny_bind (wpAny_callSpecial?_slot (name := Str.ofString "__getitem__") ht.typeIs PyProof.Rows.slot_tuple_getitem
    (wpAny_call_entry PyProof.Rows.slot_tuple_getitem ht.typeIs entry_tuple_getitem ?_ (args_tuple_getitem _ _)))
  show wpAny _ _ (Builtin.Tuple.tupleItemsOf (.ref t) >>= _) _ _ s
  refine wpAny_bind (tupleItemsOf_ ht ?_)
  refine wpAny_bind (wpAny_typeOf hTs ?_)
  rw [if_pos (by decide)]
  refine wpAny_bind (sliceApplied_back hs pk ?_)
  show wpAny _ _ (if (((items.size : Int) - 1) == 0 && (-1 : Int) == 1 && items.size == items.size) = true then _ else _) _ _ s
  rw [if_neg (by simp), back_pick]
  first
    | exact wpAny_bind (m := Builtin.Tuple.tupleExact _) (wpAny_newObj_type (wpAny_pure ⟨_, rfl, wpAny_pure h⟩) htake)
    | exact wpAny_bind (m := Builtin.Tuple.tupleExact _) (wpAny_newObj_type (wpAny_bind (wpAny_pure (wpAny_pure ⟨_, rfl, wpAny_pure h⟩))) htake)
    | exact wpAny_bind (wpAny_bind (m := Builtin.Tuple.tupleExact _) (wpAny_newObj_type (wpAny_pure (wpAny_pure ⟨_, rfl, wpAny_pure h⟩)) htake))
    | exact wpAny_bind (wpAny_bind (m := Builtin.Tuple.tupleExact _) (wpAny_newObj_type (wpAny_pure ⟨_, rfl, wpAny_pure h⟩) htake))
end
def tRevV (K : PySem.W.Frag) (te : TE) : TE := fun σ H Q => te σ H fun x H1 => ∃ a xs, x = .ref a ∧ ((SqL K H1 a xs ∧ ∀ p, H1 p = none → Q (.ref p) (upd H1 p (.lst xs.reverse))) ∨ (SqT K H1 a xs ∧ NewT H1 xs.reverse Q))
theorem pe_revV {X : Cx} {e : Expr} {te : TE} {k : Nat} {p1 p2 p3 pos : Pos} (he : PE X e te) : PE X (.Subscript e (.Slice none none (some (.UnaryOp .USub (.Constant (.int 1) k p1) p2)) p3) pos) (tRevV X.K te) := by
  refine ⟨fun pins s σ H Q I h => Subscript_ (thn (he.run pins s σ H _ I h) fun v s1 hv => ?_)⟩
  obtain ⟨x, H1, I1, r1, a, xs, ex, hx⟩ := hv
  subst ex
  cases r1
  have hst : PO X (some (.UnaryOp .USub (.Constant (.int 1) k p1) p2)) (tPart (tUn (rU fun i => .int (-i)) (tC (.int 1)))) := po_some (pe_un un_neg pe_int)
  refine wpAny_Slice (thn (po_none.run pins s1 σ H1 (fun o H2 => o = none ∧ H2 = H1) I1 ⟨rfl, rfl⟩) fun vl s2 ⟨l, H2, I2, pl, el, e2⟩ => ?_)
  subst el e2
  refine thn (po_none.run pins s2 σ H2 (fun o H3 => o = none ∧ H3 = H2) I2 ⟨rfl, rfl⟩) fun vu s3 ⟨u, H3, I3, pu, eu, e3⟩ => ?_
  subst eu e3
  refine thn (hst.run pins s3 σ H3 (fun o H4 => o = some (-1) ∧ H4 = H3) I3 ⟨1, rfl, -1, rfl, rfl, rfl⟩) fun vs s4 ⟨o, H4, I4, ps, eo, e4⟩ => ?_
  subst eo e4
  have I5 : Inv X pins σ H4 { s4 with heap := s4.heap.push { cls := .type "slice", data := .fields #[vl, vu, vs] } } := I4.kept (t' := s4.toks) fun b ob q => Heap.get?_push_of_some _ q
  show wpAny (model X.prog X.w) X.A (subscriptTail e (.Slice none none (some (.UnaryOp .USub (.Constant (.int 1) k p1) p2)) p3) (.ref a) (.ref s4.heap.objs.size)) (EP X pins σ Q) X.xe { s4 with heap := s4.heap.push { cls := .type "slice", data := .fields #[vl, vu, vs] } }
  rcases hx with ⟨hx, q⟩ | ⟨hx, q⟩
  · obtain ⟨its, r, ht, hz⟩ := I5.list hx
    have hlen := r.length
    refine tail_any (ops := [.ref a, .ref s4.heap.objs.size]) ht.isList.typeIs (PySem.slot_list_getitem.lookup) ?_ (by with_unfolding_all rfl)
    refine wpAny_getItem_list_slice ht.isList (Heap.IsSliceOf.new _ vl vu vs) pl pu ps (by decide) ?_ (by rw [List.size_toArray]; omega)
    rw [PySem.W.krv_pick]
    refine ⟨.ref _, _, I5.laid (t' := s4.toks) (o := .lst xs.reverse) (fun b ob q => Heap.get?_push_of_some _ q) (Nat.le_refl _) ?_, rfl, q _ (I5.hok.fresh (Nat.le_refl _))⟩
    exact ⟨by rw [List.length_reverse]; exact hz, _, 0, r.reverse, Heap.get?_push_size _ rfl⟩
  · obtain ⟨its, r, ht, hz⟩ := I5.tuple hx
    have hlen := r.length
    cases pl
    cases pu
    refine tail_any (ops := [.ref a, .ref s4.heap.objs.size]) ht.typeIs (PyProof.Rows.slot_tuple_getitem.lookup) ?_ (by with_unfolding_all rfl)
    refine getItem_tuple_back ht (Heap.IsSliceOf.new _ .none .none vs) ps ?_ (by rw [List.size_toArray]; omega)
    exact new_tup (s := s4) (h' := s4.heap.push { cls := .type "slice", data := .fields #[.none, .none, vs] }) (tk := s4.toks) I5 r.reverse (by rw [List.length_reverse]; exact hz) q
/-- xs[::-1] -/
def wRev : W1
  | .list ds, p => p (.list ds.reverse)
  | .tuple ds, p => p (.tuple ds.reverse)
  | _, _ => False
theorem wRev_mo : Mo1 wRev := fun d p p' h q => by
  unfold wRev at *; split at q <;> first | exact h _ q | exact q
theorem d_rev {X : Cx} {B : BI} {e : Expr} {te : ET} {k : Nat} {p1 p2 p3 pos : Pos} (hK : B.K = X.K) (he : DE X B e te) : DE X B (.Subscript e (.Slice none none (some (.UnaryOp .USub (.Constant (.int 1) k p1) p2)) p3) pos) (e1 wRev te) :=
  ⟨peOf (pe_revV he.pe) fun σ H Q ⟨S, ρ, g, q⟩ => ⟨S, ρ, g, he.mo _ _ _ (fun o ρ1 q x S1 H1 k1 g1 h1 => by
    obtain ⟨d, ed, q⟩ := wD_inv q
    have rb := h1.get g1 ed
    unfold wRev at q
    split at q
    · cases rb with
      | lst hx rx lx => rw [← hK]; exact ⟨_, _, rfl, .inl ⟨hx.sq, fun p hp => q _ S1 _ (k1.trans (Kp.same (same_new hp))) (g1.same (same_new hp)) (R.lst (.inl ⟨notS g1.trk hp, .inl upd_same⟩) (rx.reverse.kp (Kp.same (same_new hp))) (by rw [List.length_reverse]; exact lx))⟩⟩
    · cases rb with
      | tup hx rx lx => rw [← hK]; exact ⟨_, _, rfl, .inr ⟨tq hx, fun p o hp hd => q _ S1 _ (k1.trans (Kp.same (same_new hp))) (g1.same (same_new hp)) (R.tup (.inl ⟨notS g1.trk hp, NewT.at hd⟩) (rx.reverse.kp (Kp.same (same_new hp))) (by rw [List.length_reverse]; exact lx))⟩⟩
    · exact q.elim) q⟩, e1_mo wRev_mo he.mo⟩

/-! ### the least tuple of a list -/
section
variable {prog : Program} {w : World} {A : Around} {J : Result → Shared → Prop} {it : Addr} {fp wr : List Addr} {n : Nat} {P : Nat → Value → Prop} {At : Nat → Heap → Prop} {G : Heap → Prop}
/-- as CmpOf, in the heaps of G -/
def CmpG (prog : Program) (w : World) (A : Around) (op : CmpOp) (G : Heap → Prop) (P : Nat → Value → Prop) (bt : Nat → Nat → Bool) : Prop :=
  ∀ i j vi vj (s : Shared) (Q : Value → Shared → Prop) (E : Value → Shared → Prop), G s.heap → P i vi → P j vj → Q (.bool (bt i j)) s → wpAny (model prog w) A (richCompare op vi vj) Q E s
theorem minG_loop (W : Walks prog w A.in1 it fp wr n P At) (bt : Nat → Nat → Bool) (cmp : CmpG prog w A.in1 .Lt G P bt) (Z : Addr) (hZf : Z ∉ fp)
    (hG : ∀ h h', G h → (∀ b o, b ∉ wr → b ≠ Z → h.get? b = some o → h'.get? b = some o) → G h') :
    ∀ (k j : Nat) (s : Shared) (vb : Value) (c : Nat), n - (j + 1) = k → j + 1 ≤ n → At (j + 1) s.heap → G s.heap → P (argBest bt j) vb → s.heap.get? Z = some { cls := .type "list", dict := none, data := .seq #[vb, vb] c, slots := #[] } →
    (∀ v h' tk, P (argBest bt (n - 1)) v → (∀ b o, b ∉ wr → b ≠ Z → s.heap.get? b = some o → h'.get? b = some o) → J (.ok (.ret v)) { s with heap := h', toks := tk }) →
    codeAny (model prog w) A (.builtin "min.loop" ⟨[.ref it, .none, .ref Z], []⟩) J s := by
  have hZw : Z ∉ wr := fun h => hZf (W.sub _ h)
  have nm : (toString "min" ++ toString ".loop" : String) = "min.loop" := by decide
  intro k
  induction k with
  | zero =>
    intro j s vb c hk hj st gs pb hZ out
    have hin : j + 1 = n := by omega
    refine codeAny_builtin PySem.F.entry_min_loop ?_
    rw [Around.under_plainId PySem.F.plain_min_loop _]
    show wpAny _ A.in1 (seqItems? (.ref Z) >>= _) _ _ s
    refine wpAny_bind (wpAny_seqItems hZ rfl ?_)
    show wpAny _ A.in1 (tryCatch (pyNext (.ref it)) _ >>= _) _ _ s
    refine wpAny_bind (wpAny_tryCatch (W.done s _ _ (hin ▸ st) fun h' tk kp => ?_))
    have hZ' := kp Z _ hZw hZ
    show wpAny _ A.in1 (updateSeq Z (fun _ => #[]) >>= _) _ _ _
    refine wpAny_bind (wpAny_updateSeq hZ' rfl (wpAny_bind (wpAny_letGo (wpAny_pure ?_))))
    exact out vb _ tk (by rw [← hin]; exact pb) fun b o nb nz e => (Heap.get?_update_other _ _ (Ne.symm nz)).trans (kp b o nb e)
  | succ k ih =>
    intro j s vb c hk hj st gs pb hZ out
    have lt : j + 1 < n := by omega
    refine codeAny_builtin PySem.F.entry_min_loop ?_
    rw [Around.under_plainId PySem.F.plain_min_loop _]
    show wpAny _ A.in1 (seqItems? (.ref Z) >>= _) _ _ s
    refine wpAny_bind (wpAny_seqItems hZ rfl ?_)
    show wpAny _ A.in1 (tryCatch (pyNext (.ref it)) _ >>= _) _ _ s
    refine wpAny_bind (wpAny_tryCatch (W.item (j + 1) s _ _ lt st fun v h' tk pv st' kp => ?_))
    have hZ' := kp Z _ hZw hZ
    have gs' : G h' := hG _ _ gs fun b o nb _ e => kp b o nb e
    show wpAny _ A.in1 (tryCatch (holding [v, v] (richCompare .Lt v vb >>= _)) _ >>= _) _ _ _
    refine wpAny_bind (wpAny_tryCatch (wpAny_holding (wpAny_bind (cmp (j + 1) (argBest bt j) v vb _ _ _ gs' pv pb ?_))))
    refine wpAny_bind (wpAny_holding (wpAny_truthy_bool (wpAny_bind (wpAny_letGo (wpAny_pure ?_)))))
    cases hb : bt (j + 1) (argBest bt j) with
    | true =>
      simp only [if_true]
      refine wpAny_bind (wpAny_updateSeq hZ' rfl (wpAny_bind (wpAny_letGo ?_)))
      rw [nm]
      refine wpAny_pure ⟨plainId_quiet PySem.F.plain_min_loop _, ih (j + 1) _ v _ (by omega) lt (W.frame _ _ _ st' fun b hbf o e => ?_) (hG _ _ gs' fun b o _ nz e => (Heap.get?_update_other _ _ (Ne.symm nz)).trans e) (by simp only [argBest, hb, if_true]; exact pv) (Heap.get?_update_self _ hZ' rfl)
        fun v' h'' tk'' pv' kp' => ?_⟩
      · exact (Heap.get?_update_other _ _ (fun h : Z = b => hZf (by rw [h]; exact hbf))).trans e
      · exact out v' h'' tk'' pv' fun b o nb nz e => kp' b o nb nz ((Heap.get?_update_other _ _ (Ne.symm nz)).trans (kp b o nb e))
    | false =>
      simp only [Bool.false_eq_true, if_false]
      refine wpAny_bind (wpAny_letGo ?_)
      rw [nm]
      refine wpAny_pure ⟨plainId_quiet PySem.F.plain_min_loop _, ih (j + 1) _ vb c (by omega) lt st' gs' (by simp only [argBest, hb, Bool.false_eq_true, if_false]; exact pb) hZ' fun v' h'' tk'' pv' kp' => ?_⟩
      exact out v' h'' tk'' pv' fun b o nb nz e => kp' b o nb nz (kp b o nb e)
theorem minG_first (W : Walks prog w A.in1 it fp wr n P At) (bt : Nat → Nat → Bool) (cmp : CmpG prog w A.in1 .Lt G P bt) (Z : Addr) (hZf : Z ∉ fp) (hn : 0 < n)
    (hG : ∀ h h', G h → (∀ b o, b ∉ wr → b ≠ Z → h.get? b = some o → h'.get? b = some o) → G h') {s : Shared} {c : Nat} (st : At 0 s.heap) (gs : G s.heap)
    (hZ : s.heap.get? Z = some { cls := .type "list", dict := none, data := .seq #[] c, slots := #[] })
    (out : ∀ v h' tk, P (argBest bt (n - 1)) v → (∀ b o, b ∉ wr → b ≠ Z → s.heap.get? b = some o → h'.get? b = some o) → J (.ok (.ret v)) { s with heap := h', toks := tk }) :
    codeAny (model prog w) A (.builtin "min.loop" ⟨[.ref it, .none, .ref Z], []⟩) J s := by
  have hZw : Z ∉ wr := fun h => hZf (W.sub _ h)
  have nm : (toString "min" ++ toString ".loop" : String) = "min.loop" := by decide
  refine codeAny_builtin PySem.F.entry_min_loop ?_
  rw [Around.under_plainId PySem.F.plain_min_loop _]
  show wpAny _ A.in1 (seqItems? (.ref Z) >>= _) _ _ s
  refine wpAny_bind (wpAny_seqItems hZ rfl ?_)
  show wpAny _ A.in1 (tryCatch (pyNext (.ref it)) _ >>= _) _ _ s
  refine wpAny_bind (wpAny_tryCatch (W.item 0 s _ _ hn st fun v h' tk pv st' kp => ?_))
  have hZ' := kp Z _ hZw hZ
  have gs' : G h' := hG _ _ gs fun b o nb _ e => kp b o nb e
  show wpAny _ A.in1 (updateSeq Z (fun _ => #[v, v]) >>= _) _ _ _
  refine wpAny_bind (wpAny_updateSeq hZ' rfl ?_)
  rw [nm]
  refine wpAny_pure ⟨plainId_quiet PySem.F.plain_min_loop _, minG_loop W bt cmp Z hZf hG _ 0 _ v _ rfl hn (W.frame _ _ _ st' fun b hbf o e => ?_) (hG _ _ gs' fun b o _ nz e => (Heap.get?_update_other _ _ (Ne.symm nz)).trans e) pv (Heap.get?_update_self _ hZ' rfl) fun v' h'' tk'' pv' kp' => ?_⟩
  · exact (Heap.get?_update_other _ _ (fun h : Z = b => hZf (by rw [h]; exact hbf))).trans e
  · exact out v' h'' tk'' pv' fun b o nb nz e => kp' b o nb nz ((Heap.get?_update_other _ _ (Ne.symm nz)).trans (kp b o nb e))
/-- the place of the best stands behind no other -/
theorem argBest_least {lt : Nat → Nat → Bool} (irr : ∀ i, lt i i = false) (tr : ∀ i j k, lt i j = false → lt j k = false → lt i k = false) (as : ∀ i j, lt i j = true → lt j i = false) : ∀ k, argBest lt k ≤ k ∧ ∀ j, j ≤ k → lt j (argBest lt k) = false
  | 0 => ⟨Nat.le_refl _, fun j hj => by
      have : j = 0 := by omega
      subst this; exact irr 0⟩
  | k + 1 => by
    obtain ⟨h1, h2⟩ := argBest_least irr tr as k
    unfold argBest
    split
    · rename_i c
      refine ⟨Nat.le_refl _, fun j hj => ?_⟩
      by_cases e : j = k + 1
      · rw [e]; exact irr _
      · exact tr j _ _ (h2 j (by omega)) (as _ _ c)
    · rename_i c
      refine ⟨Nat.le_succ_of_le h1, fun j hj => ?_⟩
      by_cases e : j = k + 1
      · rw [e]; exact Bool.eq_false_iff.mpr c
      · exact h2 j (by omega)
end

section
theorem lexLt_irr : ∀ ns : List Int, HT.lexLt ns ns = false
  | [] => rfl
  | n :: r => by rw [HT.lexLt_cons, if_pos rfl]; exact lexLt_irr r
theorem lexLt_as : ∀ ns ms : List Int, HT.lexLt ns ms = true → HT.lexLt ms ns = false
  | [], [], h => by cases h
  | [], _ :: _, _ => rfl
  | _ :: _, [], h => by cases h
  | n :: r, m :: t, h => by
    rw [HT.lexLt_cons] at *
    by_cases c : n = m
    · rw [if_pos c] at h; rw [if_pos c.symm]; exact lexLt_as r t h
    · rw [if_neg c] at h; rw [if_neg (Ne.symm c)]
      have := of_decide_eq_true h
      exact decide_eq_false (by omega)
theorem lexLt_tr : ∀ a b c : List Int, HT.lexLt a b = false → HT.lexLt b c = false → HT.lexLt a c = false
  | [], [], c, _, h => h
  | [], _ :: _, _, h, _ => by cases h
  | _ :: _, _, [], _, _ => rfl
  | _ :: _, [], _ :: _, _, h => by cases h
  | x :: xs, y :: ys, z :: zs, h1, h2 => by
    rw [HT.lexLt_cons] at *
    by_cases c1 : x = y
    · subst c1
      rw [if_pos rfl] at h1
      by_cases c2 : x = z
      · rw [if_pos c2] at h2 ⊢; exact lexLt_tr xs ys zs h1 h2
      · rw [if_neg c2] at h2 ⊢; exact h2
    · rw [if_neg c1] at h1
      have q1 := of_decide_eq_false h1
      by_cases c2 : y = z
      · subst c2; rw [if_neg c1]; exact h1
      · rw [if_neg c2] at h2
        have q2 := of_decide_eq_false h2
        rw [if_neg (by omega)]
        exact decide_eq_false (by omega)
/-- not before one another: the same -/
theorem lexLt_eq : ∀ a b : List Int, HT.lexLt a b = false → HT.lexLt b a = false → a = b
  | [], [], _, _ => rfl
  | [], _ :: _, h, _ => by cases h
  | _ :: _, [], _, h => by cases h
  | x :: xs, y :: ys, h1, h2 => by
    rw [HT.lexLt_cons] at *
    by_cases c : x = y
    · rw [if_pos c] at h1; rw [if_pos c.symm] at h2; rw [c, lexLt_eq xs ys h1 h2]
    · rw [if_neg c] at h1; rw [if_neg (Ne.symm c)] at h2
      have q1 := of_decide_eq_false h1
      have q2 := of_decide_eq_false h2
      omega
/-- the tuples of a list -/
inductive TupsAt (K : PySem.W.Frag) (H : Hp) : List V → List (List Int) → Prop
  | nil : TupsAt K H [] []
  | cons {b : Addr} {ns : List Int} {xs : List V} {nss : List (List Int)} : SqT K H b (ns.map V.int) → TupsAt K H xs nss → TupsAt K H (.ref b :: xs) (ns :: nss)
theorem TupsAt.length {K : PySem.W.Frag} {H : Hp} : ∀ {xs : List V} {nss : List (List Int)}, TupsAt K H xs nss → xs.length = nss.length
  | _, _, .nil => rfl
  | _, _, .cons _ r => congrArg (· + 1) r.length
theorem TupsAt.at {K : PySem.W.Frag} {H : Hp} : ∀ {xs : List V} {nss : List (List Int)} {i : Nat} {x : V}, TupsAt K H xs nss → xs[i]? = some x → ∃ b ns, nss[i]? = some ns ∧ x = .ref b ∧ SqT K H b (ns.map V.int)
  | _, _, _, _, .nil, h => by simp at h
  | _, _, 0, _, .cons h _, e => by
    simp at e; subst e
    exact ⟨_, _, rfl, rfl, h⟩
  | _, _, i + 1, _, .cons _ t, e => by
    obtain ⟨b, ns, h1, h2⟩ := TupsAt.at (i := i) t (by simpa using e)
    exact ⟨b, ns, by simpa using h1, h2⟩
def rMinT (K : PySem.W.Frag) : List V → Hp → VK → Prop := fun vs H Q => ∃ (a : Addr) (xs : List V) (nss : List (List Int)), vs = [.ref a] ∧ SqL K H a xs ∧ TupsAt K H xs nss ∧ 0 < xs.length ∧
  ∀ (i : Nat) (x : V) (ns : List Int), xs[i]? = some x → nss[i]? = some ns → (∀ ms ∈ nss, HT.lexLt ms ns = false) → Q x H
theorem valsAt {xs : List V} {us : List Value} (r : Vals xs us) : ∀ {i : Nat} {u : Value}, us[i]? = some u → ∃ x, xs[i]? = some x ∧ RelV x u := by
  induction r with
  | nil => intro i u h; simp at h
  | cons p _ ih =>
    intro i u h
    cases i with
    | zero => simp at h; subst h; exact ⟨_, rfl, p⟩
    | succ i =>
      obtain ⟨x, h1, h2⟩ := ih (i := i) (u := u) (by simpa using h)
      exact ⟨x, by simpa using h1, h2⟩
theorem cr_minT {X : Cx} (hc : X.calm = true) (hu : X.A.units + 64 < cLine) : CallR X (.builtin "min") (rMinT X.K) := by
  intro pins s σ H vs us Q I r h
  obtain ⟨a, xs, nss, rfl, hs, tp, ne, q⟩ := h
  obtain ⟨its, rv, hl, hz⟩ := I.list hs
  rw [Vals.ref1 r]
  have hl : s.heap.IsList a its.toArray := hl.isList
  have hlen : its.length = xs.length := rv.length.symm
  have nm : (toString "min" ++ toString ".loop" : String) = "min.loop" := by decide
  refine call_function_tree PySem.F.kind_min PySem.F.plain_min PySem.F.entry_min (PySem.F.args_min1 _) ?_
  show wpAny _ X.A.in1 (Builtin.Builtins.bindParams "min" ["key", "default"] 0 ⟨[], []⟩ >>= _) _ _ s
  refine wpAny_bind (wpAny_of_eq (show Builtin.Builtins.bindParams "min" ["key", "default"] 0 ⟨[], []⟩ = pure [none, none] from rfl) (wpAny_bind (wpAny_pure ?_)))
  have hlt : a < s.heap.objs.size := by obtain ⟨_, e, _⟩ := hl; exact Heap.lt_size e
  refine wpAny_bind (wpAny_pyIter_list hl (wpAny_bind (wpAny_newObj_type ?_)))
  rw [nm]
  let h1 := s.heap.push { cls := .type "list_iterator", data := .fields #[.ref a, .int 0 0] }
  let num : Nat → List Int := fun i => nss[i]?.getD []
  have hsz : h1.objs.size = s.heap.objs.size + 1 := Heap.size_push ..
  have W := Walks.list (prog := X.prog) (w := X.w) (A := X.A.in1) (I.ok.hd hc) s.heap.objs.size a (Nat.ne_of_lt hlt) its.toArray
  refine wpAny_pure ⟨plainId_quiet PySem.F.plain_min_loop _, minG_first (G := fun h => ∀ b o, s.heap.get? b = some o → h.get? b = some o) (W := W) (bt := fun i j => HT.lexLt (num i) (num j)) (fun i j vi vj s' Q' E' hg hi hj hq => ?_) h1.objs.size (fun m => ?_) (by rw [List.size_toArray, hlen]; exact ne)
    (fun h h' g kp b o e => kp b o (fun m => ?_) (fun z => ?_) (g b o e)) ⟨?_, ?_⟩ (fun b o e => Heap.get?_push_of_some _ (Heap.get?_push_of_some _ e)) (Heap.get?_push_size _ rfl) fun v h' tk pv kp => ?_⟩
  · have hi : its[i]? = some vi := by simpa using hi
    have hj : its[j]? = some vj := by simpa using hj
    obtain ⟨x, ex, rx⟩ := valsAt rv hi
    obtain ⟨y, ey, ry⟩ := valsAt rv hj
    obtain ⟨b, ns, en, rfl, sb⟩ := tp.at ex
    obtain ⟨c, ms, em, rfl, sc⟩ := tp.at ey
    cases rx
    cases ry
    obtain ⟨i1, r1, p1, _⟩ := I.tuple sb
    obtain ⟨i2, r2, p2, _⟩ := I.tuple sc
    have up : ∀ (d : Addr) (js : Array Value), IsTup s.heap d js → IsTup s'.heap d js := fun d js ⟨o, e, z⟩ => ⟨o, hg d o e, z⟩
    have hq : Q' (.bool (HT.lexLt ns ms)) s' := by
      have e1 : num i = ns := by show nss[i]?.getD [] = ns; rw [en]; rfl
      have e2 : num j = ms := by show nss[j]?.getD [] = ms; rw [em]; rfl
      rw [← e1, ← e2]; exact hq
    exact HT.lt_tupInts (up _ _ p1) (up _ _ p2) (intsAre_of r1) (intsAre_of r2) (by show X.A.units + 1 < cLine; omega) hq
  · rcases List.mem_cons.mp m with e | m
    · exact absurd (hsz.symm.trans e) (Nat.succ_ne_self _)
    · have e := hsz.symm.trans (List.mem_singleton.mp m)
      exact absurd hlt (by rw [← e]; exact Nat.not_lt_of_lt (Nat.lt_succ_self _))
  · have := Heap.lt_size e
    rw [List.mem_singleton.mp m] at this
    exact Nat.lt_irrefl _ this
  · have := Heap.lt_size e
    rw [z.trans hsz] at this
    exact Nat.lt_irrefl _ (Nat.lt_of_succ_lt this)
  · exact ⟨_, Heap.get?_push_of_some _ (Heap.get?_push_size _ rfl), rfl, rfl⟩
  · exact (hl.push _).push _
  · have pv : its[argBest (fun i j => HT.lexLt (num i) (num j)) (its.length - 1)]? = some v := by simpa using pv
    obtain ⟨x, ex, rx⟩ := valsAt rv pv
    obtain ⟨b, ns, en, rfl, sb⟩ := tp.at ex
    obtain ⟨l1, l2⟩ := argBest_least (lt := fun i j => HT.lexLt (num i) (num j)) (fun i => lexLt_irr _) (fun i j k => lexLt_tr _ _ _) (fun i j => lexLt_as _ _) (its.length - 1)
    refine ⟨.ref b, H, I.kept (t' := tk) fun b o e => ?_, rx, q _ _ ns ex en fun ms hm => ?_⟩
    · refine kp b o (fun m => ?_) (fun z => ?_) (Heap.get?_push_of_some _ (Heap.get?_push_of_some _ e))
      · have := Heap.lt_size e
        rw [List.mem_singleton.mp m] at this
        exact Nat.lt_irrefl _ this
      · have := Heap.lt_size e
        rw [z.trans hsz] at this
        exact Nat.lt_irrefl _ (Nat.lt_of_succ_lt this)
    · obtain ⟨j, hj, rfl⟩ := List.mem_iff_getElem.mp hm
      have := l2 j (by rw [← tp.length] at hj; omega)
      have e1 : num j = nss[j] := by show nss[j]?.getD [] = _; rw [List.getElem?_eq_getElem hj]; rfl
      have e2 : num (argBest (fun i j => HT.lexLt (num i) (num j)) (its.length - 1)) = ns := by show nss[_]?.getD [] = ns; rw [en]; rfl
      simp only [e1] at this
      rw [e2] at this
      exact this
end
/-- a statement that is never reached -/
def sNever : STy := fun _ _ => False
theorem ds_never {X : Cx} {B : BI} {st : Stmt} : DS X B st sNever := ⟨⟨fun pins s σ H D I ⟨_, _, _, _, _, q⟩ => q.elim⟩, fun _ _ _ _ q => q⟩
end DL

/-! DL12: min, max of a list; pairs given at once. -/
namespace DL
open PySem PySem.Spec PyProof.Rows L2

theorem callR_or {X : Cx} {f : Value} {r r' : List V → Hp → VK → Prop} (h : CallR X f r) (h' : CallR X f r') : CallR X f (fun vs H Q => r vs H Q ∨ r' vs H Q) := by
  intro pins s σ H vs us Q I rv q
  rcases q with q | q
  · exact h pins s σ H vs us Q I rv q
  · exact h' pins s σ H vs us Q I rv q
theorem svA_or {K : PySem.W.Frag} {r r' : List V → Hp → VK → Prop} {w w' : WA} (h : SvA K r w) (h' : SvA K r' w') : SvA K (fun vs H Q => r vs H Q ∨ r' vs H Q) (fun ds p => w ds p ∨ w' ds p) := fun S H xs ds Q tr rx q => by
  rcases q with q | q
  · exact .inl (h S H xs ds Q tr rx q)
  · exact .inr (h' S H xs ds Q tr rx q)
def wMinI : WA := fun ds q => ∃ ns : List Int, ds = [.list (ns.map PyData.int)] ∧ 0 < ns.length ∧ ∀ m ∈ ns, (∀ y ∈ ns, m ≤ y) → q (.int m)
def wMaxI : WA := fun ds q => ∃ ns : List Int, ds = [.list (ns.map PyData.int)] ∧ 0 < ns.length ∧ ∀ m ∈ ns, (∀ y ∈ ns, y ≤ m) → q (.int m)
def tupD (ns : List Int) : D := .tuple (ns.map PyData.int)
def wMinT : WA := fun ds q => ∃ nss : List (List Int), ds = [.list (nss.map tupD)] ∧ 0 < nss.length ∧ ∀ ns ∈ nss, (∀ ms ∈ nss, HT.lexLt ms ns = false) → q (tupD ns)
def wMin1 : WA := fun ds q => wMinI ds q ∨ wMinT ds q
theorem wMaxI_mo : MoWA wMaxI := fun d p p' h ⟨ns, e, l, q⟩ => ⟨ns, e, l, fun m a b => h _ (q m a b)⟩
theorem wMin1_mo : MoWA wMin1 := fun d p p' h q => by
  rcases q with ⟨ns, e, l, q⟩ | ⟨ns, e, l, q⟩
  · exact .inl ⟨ns, e, l, fun m a b => h _ (q m a b)⟩
  · exact .inr ⟨ns, e, l, fun m a b => h _ (q m a b)⟩
section
variable {K : PySem.W.Frag}
theorem sv_minI : SvA K (rMin K) wMinI := fun S H xs ds Q tr r ⟨ns, e, l, q⟩ => by
  subst e
  obtain ⟨x, rfl, rb⟩ := r.one
  cases rb with
  | lst hx rx lx => rw [rx.ints_inv] at hx; exact ⟨_, ns, rfl, hx.sq, l, fun m a b => q m a b _ H (Same.refl H) (.int _)⟩
theorem sv_maxI : SvA K (rMax K) wMaxI := fun S H xs ds Q tr r ⟨ns, e, l, q⟩ => by
  subst e
  obtain ⟨x, rfl, rb⟩ := r.one
  cases rb with
  | lst hx rx lx => rw [rx.ints_inv] at hx; exact ⟨_, ns, rfl, hx.sq, l, fun m a b => q m a b _ H (Same.refl H) (.int _)⟩
theorem RA.tups {S : List Addr} {H : Hp} : ∀ {nss : List (List Int)} {vs : List V}, RA K S H vs (nss.map tupD) → TupsAt K H vs nss
  | [], _, .nil => .nil
  | ns :: r, _, .cons h t => by
    cases h with
    | tup hx rx lx => rw [rx.ints_inv] at hx; exact .cons (tq hx) (RA.tups t)
theorem sv_minT : SvA K (rMinT K) wMinT := fun S H xs ds Q tr r ⟨nss, e, l, q⟩ => by
  subst e
  obtain ⟨x, rfl, rb⟩ := r.one
  cases rb with
  | lst hx rx lx =>
    refine ⟨_, _, nss, rfl, hx.sq, rx.tups, by rw [rx.length, List.length_map]; exact l, fun i x ns e1 e2 h => ?_⟩
    obtain ⟨d, e3, rd⟩ := rx.getV e1
    rw [List.getElem?_map, e2] at e3
    cases e3
    exact q ns (List.mem_of_getElem? e2) h _ H (Same.refl H) rd
variable {X : Cx} {B : BI} {a b : Expr} {es : List Expr} {ta : ETA} {p pos : Pos}
theorem d_min1 (hK : B.K = X.K) (hc : X.calm = true) (hu : X.A.units + 64 < cLine) (hg : Gl X "min") (hm : X.mg "min" = none) (ha : DA X B (a :: es) ta) (h1 : starEach (a :: es) X.env = (false, eval a X.env) :: starEach es X.env := by rfl) (h2 : (backTo pos (starEach es X.env)).any (·.1) = false := by rfl) :
    DE X B (.Call (.Name "min" p) (a :: es) [] pos) (eB wMin1 ta) := d_callB (callR_or (cr_min hc) (cr_minT hc hu)) wMin1_mo (hK ▸ svA_or sv_minI sv_minT) hg hm (by decide +kernel) ha (h1 := h1) (h2 := h2)
theorem d_max1 (hK : B.K = X.K) (hc : X.calm = true) (hg : Gl X "max") (hm : X.mg "max" = none) (ha : DA X B (a :: es) ta) (h1 : starEach (a :: es) X.env = (false, eval a X.env) :: starEach es X.env := by rfl) (h2 : (backTo pos (starEach es X.env)).any (·.1) = false := by rfl) :
    DE X B (.Call (.Name "max" p) (a :: es) [] pos) (eB wMaxI ta) := d_callB (cr_max hc) wMaxI_mo (hK ▸ sv_maxI) hg hm (by decide +kernel) ha (h1 := h1) (h2 := h2)
end

/-! ### a, b = x, y of plain local names -/
def sPar (i j : Nat) (ta tb : ET) : STy := fun D ρ => ta ρ fun o ρ1 => tb ρ1 fun o' ρ2 => match o, o' with
  | .v d, .v d' => D.nx ((ρ2.set i (.d d)).set j (.d d'))
  | _, _ => False
def sParO (i j : Nat) (ta : OT) (tb : ET) : STy := fun D ρ => ta ρ fun ow ρ1 => tb ρ1 fun o' ρ2 => match o' with
  | .v d' => D.nx ((ρ2.set i (.own true ow)).set j (.d d'))
  | _ => False
section
variable {X : Cx} {B : BI} {a b : Expr} {ta tb : ET} {to : OT} {i j : Nat} {x y : Str} {px py pt : Pos} {kt k2 : Nat} {pt2 pos : Pos}
theorem ds_par (hc : X.calm = true) (hN : X.N.Nodup) (hi : X.N[i]? = some x) (hj : X.N[j]? = some y) (hij : i ≠ j) (hx : X.env.scope.names.lookup x = some .local) (hy : X.env.scope.names.lookup y = some .local)
    (ha : DE X B a ta) (hb : DE X B b tb) (hw : swappedStores [.Tuple [.Name x px, .Name y py] kt pt] (.Tuple [a, b] k2 pt2) X.env = pure (some [x, y]))
    (hs : swapsWithSole [.Tuple [.Name x px, .Name y py] kt pt] (.Tuple [a, b] k2 pt2) pos.line X.env = pure false := by rfl)
    (s1 : starEach (a :: [b]) X.env = (false, eval a X.env) :: starEach [b] X.env := by rfl) (s2 : starEach (b :: []) X.env = (false, eval b X.env) :: starEach [] X.env := by rfl) : DS X B (.Assign [.Tuple [.Name x px, .Name y py] kt pt] (.Tuple [a, b] k2 pt2) pos) (sPar i j ta tb) :=
  ⟨psOf (ps_par hc hN hi hj hij hx hy (pa_cons ha.pe (pa_cons hb.pe pa_nil s2) s1) hw hs) fun D σ H ⟨S, ρ, D', g, l, q⟩ => ⟨S, ρ, g, ha.mo _ _ _ (fun o ρ1 q v S1 H1 k1 g1 h1 => ⟨S1, ρ1, g1, hb.mo _ _ _ (fun o' ρ2 q u S2 H2 k2 g2 h2 => by
    cases o with
    | s j => exact q.elim
    | v d =>
      cases o' with
      | s j => exact q.elim
      | v d' =>
        have r1 : R B.K S2 H2 v d := R.kp k2 h1
        exact ⟨v, u, rfl, l.nx _ S2 _ H2 (k1.trans k2) ((g2.setD i r1).setD j h2) q⟩) q⟩) q⟩, fun D D' ρ l q => ha.mo _ _ _ (fun o ρ1 q => hb.mo _ _ _ (fun o' ρ2 q => by
    cases o with
    | s j => exact q
    | v d =>
      cases o' with
      | s j => exact q
      | v d' => exact l.nx _ q) q) q⟩
theorem ds_parO (hc : X.calm = true) (hN : X.N.Nodup) (hi : X.N[i]? = some x) (hj : X.N[j]? = some y) (hij : i ≠ j) (hx : X.env.scope.names.lookup x = some .local) (hy : X.env.scope.names.lookup y = some .local)
    (ha : DO X B a to) (hb : ∀ fr, DE X (B.pin fr) b tb) (hw : swappedStores [.Tuple [.Name x px, .Name y py] kt pt] (.Tuple [a, b] k2 pt2) X.env = pure (some [x, y]))
    (hs : swapsWithSole [.Tuple [.Name x px, .Name y py] kt pt] (.Tuple [a, b] k2 pt2) pos.line X.env = pure false := by rfl)
    (s1 : starEach (a :: [b]) X.env = (false, eval a X.env) :: starEach [b] X.env := by rfl) (s2 : starEach (b :: []) X.env = (false, eval b X.env) :: starEach [] X.env := by rfl) : DS X B (.Assign [.Tuple [.Name x px, .Name y py] kt pt] (.Tuple [a, b] k2 pt2) pos) (sParO i j to tb) := by
  have hb' : PE X b (fun σ H Q => ∃ fr, bE (B.pin fr) tb σ H Q) := pinE fun fr => (hb fr).pe
  have mb : MoE tb := (hb []).mo
  refine ⟨psOf (ps_par hc hN hi hj hij hx hy (pa_cons ha.pe (pa_cons hb' pa_nil s2) s1) hw hs) fun D σ H ⟨S, ρ, D', g, l, q⟩ => ⟨S, ρ, g, ha.mo _ _ _ (fun ow ρ1 q v S1 H1 fp ct k1 g1 w h0 hd => ⟨pinsOf fp ct ++ B.fr, S1, ρ1, g1, mb _ _ _ (fun o' ρ2 q u S2 H2 k2 g2 h2 => ?_) q⟩) q⟩, fun D D' ρ l q => ha.mo _ _ _ (fun o ρ1 q => mb _ _ _ (fun o' ρ2 q => ?_) q) q⟩
  · cases o' with
    | s j => exact q.elim
    | v d' =>
      have w2 : OwnP B.K S2 H2 v ow fp := w.kp k2 fun a ha => by
        have e1 := (g1.pin (a, ct a) (List.mem_append_left _ (pinsOf_mem ha))).1
        have e2 := (g2.pin (a, ct a) (List.mem_append_left _ (pinsOf_mem ha))).1
        exact e2.trans e1.symm
      exact ⟨v, u, rfl, l.nx _ S2 _ H2 (k1.trans k2) ((g2.setP (i := i) w2 h0 hd).setD j h2) q⟩
  · cases o' with
    | s j => exact q
    | v d' => exact l.nx _ q
end
end DL

/-! DL13: the defs of a module: what the top has written, calls by name, three given at once. -/
namespace DL
open PySem PySem.Spec PyProof.Rows L2

/-- a def of the module, under its name, as the top has left it -/
structure DefAt (K : PySem.W.Frag) (x : Str) (st : Stmt) : Prop where
  ex : ∃ (f : Addr) (oc : Value) (od an : Option Addr) (osl : Array (Option Value)) (kV doc pm cdv ct : Value), PySem.W.nsIn K mainGlobals x = some (some (.ref f)) ∧
    K.lookup f = some ⟨oc, od, .func (PySem.W.fnOf x x (defArgs st) (defBody st) (defScope st) .none kV doc pm an cdv ct), osl⟩ ∧ PySem.W.codeIn K cdv x = true ∧ PySem.W.keepIn K (.ref f) = true
theorem DefAt.mk' {K : PySem.W.Frag} {x : Str} {st : Stmt} {f : Addr} {oc : Value} {od an : Option Addr} {osl : Array (Option Value)} {kV doc pm cdv ct : Value} (a : PySem.W.nsIn K mainGlobals x = some (some (.ref f)))
    (l : K.lookup f = some ⟨oc, od, .func (PySem.W.fnOf x x (defArgs st) (defBody st) (defScope st) .none kV doc pm an cdv ct), osl⟩) (c : PySem.W.codeIn K cdv x = true) (k : PySem.W.keepIn K (.ref f) = true) : DefAt K x st :=
  ⟨f, oc, od, an, osl, kV, doc, pm, cdv, ct, a, l, c, k⟩
/-- its parameters are plain -/
def PlainPs (x : Str) (st : Stmt) (ps : List Str) : Prop := ∀ (kV doc pm : Value) (an : Option Addr) (cdv ct : Value) (us : List Value), us.length = ps.length →
  bindArgs (PySem.W.fnOf x x (defArgs st) (defBody st) (defScope st) .none kV doc pm an cdv ct) ⟨us, []⟩ = pure (ps.zip us)
/-- a def that may be called by its name -/
structure Cal (P : Program) (w : World) (K : PySem.W.Frag) (mg : Str → Option Value) (base : Heap) (k : Nat) (x : Str) (ps : List Str) (G : FT) : Prop where
  mo : MoF G
  ex : ∃ (f : Addr) (fd : FuncData), FnG P w K mg base CX0 k f fd ps (spF K G) ∧ mg x = some (.ref f) ∧ PySem.W.keepIn K (.ref f) = true ∧ Binds K fd ps []
section
variable {P : Program} {w : World} {K : PySem.W.Frag} {mg : Str → Option Value} {base : Heap}
theorem Cal.mono {j k : Nat} {x : Str} {ps : List Str} {G : FT} (C : Cal P w K mg base j x ps G) (h : j ≤ k) : Cal P w K mg base k x ps G :=
  ⟨C.mo, let ⟨f, fd, F, q⟩ := C.ex; ⟨f, fd, F.mono h, q⟩⟩
/-- what is known of the module: the library's frozen objects stand in a heap, under its names -/
structure Modl (K : PySem.W.Frag) (mg : Str → Option Value) : Prop where
  ex : ∃ h : Heap, K.In h ∧ h.Ns mainGlobals mg
theorem Modl.at {x : Str} {v : Value} (M : Modl K mg) (e : PySem.W.nsIn K mainGlobals x = some (some v)) : mg x = some v := let ⟨_, X, G⟩ := M.ex; PySem.W.mg_of X G e
theorem Modl.no {x : Str} (M : Modl K mg) (e : PySem.W.nsIn K mainGlobals x = some none) : mg x = none := let ⟨_, X, G⟩ := M.ex; PySem.W.mg_none_of X G e
/-- a def by its body's derivation -/
theorem cal_of {x : Str} {st : Stmt} {N ps : List Str} {k : Nat} {t : STy} (M : Modl K mg) (Df : DefAt K x st) (Sc : FnScope N ps (defScope st)) (hp : PlainPs x st ps) (room : Room (k + 1) callerA)
    (hbody : ∀ (f : Addr) (cdv : Value) (A : Around) (outer : List PySem.Env) (s : Shared) (H : Hp) (E : XK) (B : BI), B.K = K → Room k (A.deeper (envOfC x (defScope st) s.heap.objs.size f cdv)) → (A.deeper (envOfC x (defScope st) s.heap.objs.size f cdv)).guards = some [] →
      DSs (cxOf CX0 P w K mg base N x (defScope st) f cdv A outer s H E).nox B (defBody st) t) : Cal P w K mg base (k + 1) x ps (fnW ps.length N.length t) := by
  obtain ⟨f, oc, od, an, osl, kV, doc, pm, cdv, ct, a, l, c, kp⟩ := Df.ex
  have F := fun_mk (st := st) l c kp
  refine ⟨fnW_mo (hbody f .none callerA [] {} (fun _ => none) (fun _ _ _ => True) { K := K, H0 := fun _ => none, vs0 := [], fps0 := fun _ => [], SC := [], fr := [] } rfl (room.deeper _) (guards_deeper _ rfl)).mo, f, _, fn_okG F Sc (hbody f), M.at a, kp, F.binds hp⟩
end
section
variable {X : Cx} {B : BI} {k k' : Nat} {ps : List Str} {x : Str} {p pos : Pos} {e : Expr} {es : List Expr} {ta : ETA} {G : FT}
theorem d_cal (hK : B.K = X.K) (C : Cal X.prog X.w X.K X.mg X.base k x ps G) (hr : Room k' X.A) (hgd : X.A.guards = some []) (ha : DA X B (e :: es) ta) (hk : k ≤ k' := by decide) (hg : Gl X x := by rfl)
    (hdb : (x == ("__debug__" : Str)) = false := by decide) (he : starEach (e :: es) X.env = (false, eval e X.env) :: starEach es X.env := by rfl) (hpl : (backTo pos (starEach es X.env)).any (·.1) = false := by rfl) : DE X B (.Call (.Name x p) (e :: es) [] pos) (eCall G ta) := by
  obtain ⟨f, fd, F, hm, hkp, hb⟩ := C.ex
  exact d_callG hK C.mo F (hr.mono hk) hgd hg hm hkp hb ha hdb he hpl
theorem do_cal (hK : B.K = X.K) (C : Cal X.prog X.w X.K X.mg X.base k x ps G) (hr : Room k' X.A) (hgd : X.A.guards = some []) (ha : DA X B (e :: es) ta) (hk : k ≤ k' := by decide) (hg : Gl X x := by rfl)
    (hdb : (x == ("__debug__" : Str)) = false := by decide) (he : starEach (e :: es) X.env = (false, eval e X.env) :: starEach es X.env := by rfl) (hpl : (backTo pos (starEach es X.env)).any (·.1) = false := by rfl) : DO X B (.Call (.Name x p) (e :: es) [] pos) (oCall G ta) := by
  obtain ⟨f, fd, F, hm, hkp, hb⟩ := C.ex
  exact ⟨peOf (pe_callG F (hr.mono hk) hgd hg hm hkp hb .nil pass0 ha.pa hdb he hpl) fun σ H Q q => by rw [← hK]; exact ocall_of C.mo ha.mo q, oCall_mo C.mo ha.mo⟩
/-- a constant of the module -/
def GlobAt (mg : Str → Option Value) (x : Str) (v : V) : Prop := ∃ u, mg x = some u ∧ RelV v u
theorem d_globI {i : Int} {pos : Pos} (h : GlobAt X.mg x (.int i)) (hg : Gl X x := by rfl) (hd : (x == ("__debug__" : Str)) = false := by decide) : DE X B (.Name x pos) (eK (.int i)) :=
  let ⟨u, e, r⟩ := h; d_glob hg e r (fun _ _ => .int i) hd
theorem d_globS {i : Str} {pos : Pos} (h : GlobAt X.mg x (.str i)) (hg : Gl X x := by rfl) (hd : (x == ("__debug__" : Str)) = false := by decide) : DE X B (.Name x pos) (eK (.str i)) :=
  let ⟨u, e, r⟩ := h; d_glob hg e r (fun _ _ => .str i) hd
theorem units_le {k : Nat} {A : Around} (hr : Room k A) : A.units + 66 < cLine := by have := hr.un; omega
theorem units_le' {k : Nat} {A : Around} (hr : Room k A) : A.units + 64 < cLine := by have := hr.un; omega
theorem units_lt {k : Nat} {A : Around} (hr : Room k A) : A.units < cLine := by have := hr.un; omega
end
/-! ### a, b, c = x, y, z of plain local names -/
def sPar3 (i j l : Nat) (ta tb tc : ET) : STy := fun D ρ => ta ρ fun o ρ1 => tb ρ1 fun o' ρ2 => tc ρ2 fun o'' ρ3 => match o, o', o'' with
  | .v d, .v d', .v d'' => D.nx (((ρ3.set i (.d d)).set j (.d d')).set l (.d d''))
  | _, _, _ => False
section
variable {X : Cx} {B : BI} {a b c : Expr} {ta tb tc : ET} {i j l : Nat} {x y z : Str} {px py pz pt : Pos} {kt k2 : Nat} {pt2 pos : Pos}
theorem ds_par3 (hc : X.calm = true) (hN : X.N.Nodup) (hi : X.N[i]? = some x) (hj : X.N[j]? = some y) (hl : X.N[l]? = some z) (hij : i ≠ j) (hil : i ≠ l) (hjl : j ≠ l)
    (hx : X.env.scope.names.lookup x = some .local) (hy : X.env.scope.names.lookup y = some .local) (hz : X.env.scope.names.lookup z = some .local)
    (ha : DE X B a ta) (hb : DE X B b tb) (hc' : DE X B c tc) (hw : swappedStores [.Tuple [.Name x px, .Name y py, .Name z pz] kt pt] (.Tuple [a, b, c] k2 pt2) X.env = pure (some [x, y, z]))
    (hs : swapsWithSole [.Tuple [.Name x px, .Name y py, .Name z pz] kt pt] (.Tuple [a, b, c] k2 pt2) pos.line X.env = pure false := by rfl)
    (s1 : starEach (a :: [b, c]) X.env = (false, eval a X.env) :: starEach [b, c] X.env := by rfl) (s2 : starEach (b :: [c]) X.env = (false, eval b X.env) :: starEach [c] X.env := by rfl) (s3 : starEach (c :: []) X.env = (false, eval c X.env) :: starEach [] X.env := by rfl) :
    DS X B (.Assign [.Tuple [.Name x px, .Name y py, .Name z pz] kt pt] (.Tuple [a, b, c] k2 pt2) pos) (sPar3 i j l ta tb tc) :=
  ⟨psOf (ps_par3 hc hN hi hj hl hij hil hjl hx hy hz (pa_cons ha.pe (pa_cons hb.pe (pa_cons hc'.pe pa_nil s3) s2) s1) hw hs) fun D σ H ⟨S, ρ, D', g, lk, q⟩ => ⟨S, ρ, g, ha.mo _ _ _ (fun o ρ1 q v S1 H1 k1 g1 h1 => ⟨S1, ρ1, g1, hb.mo _ _ _ (fun o' ρ2 q u S2 H2 k2 g2 h2 => ⟨S2, ρ2, g2, hc'.mo _ _ _ (fun o'' ρ3 q t S3 H3 k3 g3 h3 => by
    cases o with
    | s j => exact q.elim
    | v d =>
      cases o' with
      | s j => exact q.elim
      | v d' =>
        cases o'' with
        | s j => exact q.elim
        | v d'' =>
          have r1 : R B.K S3 H3 v d := R.kp (k2.trans k3) h1
          have r2 : R B.K S3 H3 u d' := R.kp k3 h2
          exact ⟨v, u, t, rfl, lk.nx _ S3 _ H3 ((k1.trans k2).trans k3) (((g3.setD i r1).setD j r2).setD l h3) q⟩) q⟩) q⟩) q⟩, fun D D' ρ l q => ha.mo _ _ _ (fun o ρ1 q => hb.mo _ _ _ (fun o' ρ2 q => hc'.mo _ _ _ (fun o'' ρ3 q => by
    cases o with
    | s j => exact q
    | v d =>
      cases o' with
      | s j => exact q
      | v d' =>
        cases o'' with
        | s j => exact q
        | v d'' => exact l.nx _ q) q) q) q⟩
end
end DL
namespace DL
open PySem PySem.Spec PyProof.Rows L2
/-- a comparison that may stand in a chain -/
def CmpK (X : Cx) (B : BI) (op : CmpOp) (w : W2) : Prop := ∃ r, OpR X (compareOp op) r ∧ Mo2 w ∧ Sv2 B.K r w
section
variable {X : Cx} {B : BI} {a b c : Expr} {ta tb tc : ET} {op op' : CmpOp} {w w' : W2} {pos : Pos}
theorem k_lt (hK : B.K = X.K) (hu : X.A.units < cLine) : CmpK X B .Lt wLt := ⟨_, op_ltX hu, wLt_mo, hK ▸ sv_lt⟩
theorem k_le : CmpK X B .LtE wLe := ⟨_, op_le, wLe_mo, sv_le⟩
theorem k_gt : CmpK X B .Gt wGt := ⟨_, op_gt, wGt_mo, sv_gt⟩
theorem k_ge : CmpK X B .GtE wGe := ⟨_, op_ge, wGe_mo, sv_ge⟩
theorem k_eq (hK : B.K = X.K) (hu : X.A.units + 64 < cLine) : CmpK X B .Eq wEq := ⟨_, OpR.or op_eq (op_eqD hu), wEq_mo, hK ▸ sv_eq⟩
theorem k_ne (hK : B.K = X.K) (hu : X.A.units + 64 < cLine) : CmpK X B .NotEq wNe := ⟨_, OpR.or op_ne (op_neD hu), wNe_mo, hK ▸ sv_ne⟩
theorem d_chainK (h1 : CmpK X B op w) (h2 : CmpK X B op' w') (ha : DE X B a ta) (hb : DE X B b tb) (hc : DE X B c tc) (hm : lastMarks [op, op'] [b, c] = false := by with_unfolding_all rfl) : DE X B (.Compare a [op, op'] [b, c] pos) (eCh w w' ta tb tc) :=
  let ⟨_, o1, m1, s1⟩ := h1; let ⟨_, o2, m2, s2⟩ := h2; d_chain o1 o2 m1 m2 s1 s2 ha hb hc hm
theorem d_tchainK (h1 : CmpK X B op w) (h2 : CmpK X B op' w') (ha : DE X B a ta) (hb : DE X B b tb) (hc : DE X B c tc) (hm : lastMarks [op, op'] [b, c] = false := by with_unfolding_all rfl) : DT X B (.Compare a [op, op'] [b, c] pos) (tB' (eCh w w' ta tb tc)) :=
  let ⟨_, o1, m1, s1⟩ := h1; let ⟨_, o2, m2, s2⟩ := h2; d_tchain o1 o2 m1 m2 s1 s2 ha hb hc hm
end
end DL

/-! DL14: name = [.. for ..]; the promises of a law's source and its draws. -/
namespace DL
open PySem PySem.Spec PyProof.Rows L2
section
variable {X : Cx} {B : BI} {elt tg iter : Expr} {ifs : List Expr} {scope : Scope} {own : List (Str × Nat)} {pos spos py : Pos} {ti : IT} {tt : ETT} {te : ET} {p : Pat} {i : Nat} {y : Str}
theorem lcE_of (hp : ∀ j ∈ p.slots, j ∈ own.map (·.2)) (mi : MoI ti) (mt : MoT tt) (me : MoE te) {σ : L2.St} {H : Hp} {Q : VK} (h : bE B (eLc ti p tt te (own.map (·.2))) σ H Q) :
    tLc (iE B ti) (p.tg B.K) (fun σ H Q => ∃ fr, bT (B.pin fr) tt σ H Q) (fun σ H Q => ∃ fr, bE (B.pin fr) te σ H Q) (own.map (·.2)) σ H Q := by
  obtain ⟨S, ρ, g, q⟩ := h
  refine lc_of hp mi mt me g (fun acc ρ' => ∀ x S' H', Kp S H S' H' → SR B S' σ H' ρ' → OpAt B S' σ H' x (.v (.list acc)) → Q x H') (fun acc ρ' xs D S2 H2 g2 ra hl k2 h0 hf q2 => ?_) q
  obtain ⟨S', k', g', r'⟩ := g2.takeD ra hl h0 hf
  exact q2 _ S' H2 (k2.trans k') g' r'
theorem lcO_of (hp : ∀ j ∈ p.slots, j ∈ own.map (·.2)) (mi : MoI ti) (mt : MoT tt) (me : MoE te) {σ : L2.St} {H : Hp} {Q : VK} (h : oE B (oLc ti p tt te (own.map (·.2))) σ H Q) :
    tLc (iE B ti) (p.tg B.K) (fun σ H Q => ∃ fr, bT (B.pin fr) tt σ H Q) (fun σ H Q => ∃ fr, bE (B.pin fr) te σ H Q) (own.map (·.2)) σ H Q := by
  obtain ⟨S, ρ, g, q⟩ := h
  refine lc_of hp mi mt me g (fun acc ρ' => ∀ x S1 H' fp ct, Kp S H S1 H' → SR { B with fr := pinsOf fp ct ++ B.fr } S1 σ H' ρ' → OwnP B.K S1 H' x (.lst acc) fp → (∀ a ∈ fp, B.H0 a = none) → (∀ p ∈ B.fr, p.1 ∉ fp) → Q x H') (fun acc ρ' xs D S2 H2 g2 ra hl k2 h0 hf q2 => ?_) q
  exact q2 _ S2 H2 [D] (fun _ => .lst xs) k2 g2 ⟨rfl, hl, xs, (g2.pin (D, .lst xs) List.mem_cons_self).1, ra⟩ (fun a ha => by rw [List.mem_singleton.mp ha]; exact h0) fun p hp m => hf p hp (List.mem_singleton.mp m)
theorem eLc_mo {vs : List Nat} (mi : MoI ti) (mt : MoT tt) (me : MoE te) : MoE (eLc ti p tt te vs) := fun ρ q q' h r => mi _ _ _ (fun ds ρ1 r => lcW_mono mt me (fun acc ρ2 r => h _ _ r) ds _ _ r) r
theorem oLc_mo {vs : List Nat} (mi : MoI ti) (mt : MoT tt) (me : MoE te) : MoO (oLc ti p tt te vs) := fun ρ q q' h r => mi _ _ _ (fun ds ρ1 r => lcW_mono mt me (fun acc ρ2 r => h _ _ r) ds _ _ r) r
theorem lcS_base (hK : B.K = X.K) (hc : X.calm = true) (hN : X.N.Nodup) (hy : X.N[i]? = some y) (hyl : X.env.scope.names.lookup y = some .local)
    (hsw : swapsWith (.ListComp elt [⟨tg, iter, ifs, 0⟩] scope pos) (some (.Name y py)) spos.line X.env = pure true) (hi : DI X B tg iter ti) (ok : BlkOk X.N X.env.scope scope own)
    (hg : ∀ (s : Shared) (H : Hp) (C : Addr) (cl : List (Str × Addr)) (fp : List Addr), PG (X.blk s H scope (compEnvC scope cl C X.env) fp) tg (p.tg X.K))
    (ht : ∀ (s : Shared) (H : Hp) (C : Addr) (cl : List (Str × Addr)) (fp : List Addr) (fr : List (Addr × HO)), DTs (X.blk s H scope (compEnvC scope cl C X.env) fp) (B.pin fr) ifs tt)
    (he : ∀ (s : Shared) (H : Hp) (C : Addr) (cl : List (Str × Addr)) (fp : List Addr) (fr : List (Addr × HO)), DE (X.blk s H scope (compEnvC scope cl C X.env) fp) (B.pin fr) elt te) (hs : ∀ x, foldedSetIterable iter X.env x = pure x := by intro _; rfl) :
    PS X (.Assign [.Name y py] (.ListComp elt [⟨tg, iter, ifs, 0⟩] scope pos) spos) (tAsg (tLc (iE B ti) (p.tg B.K) (fun σ H Q => ∃ fr, bT (B.pin fr) tt σ H Q) (fun σ H Q => ∃ fr, bE (B.pin fr) te σ H Q) (own.map (·.2))) (gName i)) := by
  rw [hK]
  exact ps_setLc hc hN hy hyl hsw hi.pi ok hg (fun s H C cl fp => ⟨fun pins s' σ H' Q I ⟨fr, q⟩ => (ht s H C cl fp fr).pts.run pins s' σ H' Q I q⟩) (fun s H C cl fp => ⟨fun pins s' σ H' Q I ⟨fr, q⟩ => (he s H C cl fp fr).pe.run pins s' σ H' Q I q⟩) hs
/-- y = [e for x in xs if t], as data -/
theorem ds_setLc (hK : B.K = X.K) (hc : X.calm = true) (hN : X.N.Nodup) (hy : X.N[i]? = some y) (hyl : X.env.scope.names.lookup y = some .local)
    (hsw : swapsWith (.ListComp elt [⟨tg, iter, ifs, 0⟩] scope pos) (some (.Name y py)) spos.line X.env = pure true) (hi : DI X B tg iter ti) (ok : BlkOk X.N X.env.scope scope own) (hp : ∀ j ∈ p.slots, j ∈ own.map (·.2))
    (hg : ∀ (s : Shared) (H : Hp) (C : Addr) (cl : List (Str × Addr)) (fp : List Addr), PG (X.blk s H scope (compEnvC scope cl C X.env) fp) tg (p.tg X.K))
    (ht : ∀ (s : Shared) (H : Hp) (C : Addr) (cl : List (Str × Addr)) (fp : List Addr) (fr : List (Addr × HO)), DTs (X.blk s H scope (compEnvC scope cl C X.env) fp) (B.pin fr) ifs tt)
    (he : ∀ (s : Shared) (H : Hp) (C : Addr) (cl : List (Str × Addr)) (fp : List Addr) (fr : List (Addr × HO)), DE (X.blk s H scope (compEnvC scope cl C X.env) fp) (B.pin fr) elt te) (hs : ∀ x, foldedSetIterable iter X.env x = pure x := by intro _; rfl) :
    DS X B (.Assign [.Name y py] (.ListComp elt [⟨tg, iter, ifs, 0⟩] scope pos) spos) (sSet i (eLc ti p tt te (own.map (·.2)))) := by
  have mt : MoT tt := (ht X.s_0 X.H_0 0 [] [] []).mo
  have me : MoE te := (he X.s_0 X.H_0 0 [] [] []).mo
  refine ⟨psOf (lcS_base hK hc hN hy hyl hsw hi ok hg ht he hs) fun D σ H ⟨S, ρ, D', g, l, q⟩ => lcE_of hp hi.mo mt me ⟨S, ρ, g, eLc_mo hi.mo mt me _ _ _ (fun o ρ1 q x S1 H1 k1 g1 h1 => ?_) q⟩, sSet_mo (eLc_mo hi.mo mt me)⟩
  cases o with
  | v d => exact l.nx _ S1 _ H1 k1 (g1.setD i h1) q
  | s j => exact q.elim
/-- .. as a list of the def's own -/
theorem ds_ownLc (hK : B.K = X.K) (hc : X.calm = true) (hN : X.N.Nodup) (hy : X.N[i]? = some y) (hyl : X.env.scope.names.lookup y = some .local)
    (hsw : swapsWith (.ListComp elt [⟨tg, iter, ifs, 0⟩] scope pos) (some (.Name y py)) spos.line X.env = pure true) (hi : DI X B tg iter ti) (ok : BlkOk X.N X.env.scope scope own) (hp : ∀ j ∈ p.slots, j ∈ own.map (·.2))
    (hg : ∀ (s : Shared) (H : Hp) (C : Addr) (cl : List (Str × Addr)) (fp : List Addr), PG (X.blk s H scope (compEnvC scope cl C X.env) fp) tg (p.tg X.K))
    (ht : ∀ (s : Shared) (H : Hp) (C : Addr) (cl : List (Str × Addr)) (fp : List Addr) (fr : List (Addr × HO)), DTs (X.blk s H scope (compEnvC scope cl C X.env) fp) (B.pin fr) ifs tt)
    (he : ∀ (s : Shared) (H : Hp) (C : Addr) (cl : List (Str × Addr)) (fp : List Addr) (fr : List (Addr × HO)), DE (X.blk s H scope (compEnvC scope cl C X.env) fp) (B.pin fr) elt te) (hs : ∀ x, foldedSetIterable iter X.env x = pure x := by intro _; rfl) :
    DS X B (.Assign [.Name y py] (.ListComp elt [⟨tg, iter, ifs, 0⟩] scope pos) spos) (sOwn i (oLc ti p tt te (own.map (·.2)))) := by
  have mt : MoT tt := (ht X.s_0 X.H_0 0 [] [] []).mo
  have me : MoE te := (he X.s_0 X.H_0 0 [] [] []).mo
  exact ⟨psOf (lcS_base hK hc hN hy hyl hsw hi ok hg ht he hs) fun D σ H ⟨S, ρ, D', g, l, q⟩ => lcO_of hp hi.mo mt me ⟨S, ρ, g, oLc_mo hi.mo mt me _ _ _ (fun o ρ1 q x S1 H1 fp ct k1 g1 w h0 hd => l.nx _ S1 _ H1 k1 (g1.setP w h0 hd) q) q⟩, fun D D' ρ l q => oLc_mo hi.mo mt me _ _ _ (fun o ρ1 q => l.nx _ q) q⟩
end

/-! ### the source of a law's draws -/
def wSource : FT := fun args post => ∃ ns : List Int, args = [.d (.list (ns.map PyData.int))] ∧ post (.own .src) args
def wPick : FT := fun args post => ∃ many : Int, args = [.own false .src, .d (.int many)] ∧ many < 1073741824 ∧ ∀ r : Int, 0 ≤ r → r < max 1 many → post (.d (.int r)) args
theorem wPick_mo : MoF wPick := fun args p p' h ⟨m, e, l, q⟩ => ⟨m, e, l, fun r a b => h _ _ (q r a b)⟩
theorem wSource_mo : MoF wSource := fun args p p' h ⟨m, e, q⟩ => ⟨m, e, h _ _ q⟩
end DL

/-! DL15: a law's draws: the promise of the def that draws, by its reading over the heap. -/
namespace DL
open PySem PySem.Spec PyProof.Rows L2

theorem val_cells {q : Addr} {l m t : Int} : valV (srcK q l m t) (.inr "cells") = some (.ref q) := by unfold srcK; rw [valV_pos rfl]
theorem ne_str {a b : Str} (h : ¬ a = b) : ¬ (Sum.inr a : Key) = .inr b := fun e => h (Sum.inr.inj e)
theorem val_left {q : Addr} {l m t : Int} : valV (srcK q l m t) (.inr "left") = some (.int l) := by
  unfold srcK; rw [valV_neg (ne_str (by decide)), valV_pos rfl]
theorem val_mixed {q : Addr} {l m t : Int} : valV (srcK q l m t) (.inr "mixed") = some (.int m) := by
  unfold srcK; rw [valV_neg (ne_str (by decide)), valV_neg (ne_str (by decide)), valV_pos rfl]
theorem val_turn {q : Addr} {l m t : Int} : valV (srcK q l m t) (.inr "turn") = some (.int t) := by
  unfold srcK; rw [valV_neg (ne_str (by decide)), valV_neg (ne_str (by decide)), valV_neg (ne_str (by decide)), valV_pos rfl]
theorem put_left {q : Addr} {l m t x : Int} : putK (srcK q l m t) (.inr "left") (.int x) = srcK q x m t := by
  have n1 : ¬ (("cells" : Str) = "left") := by decide
  have n2 : ¬ (("mixed" : Str) = "left") := by decide
  have n3 : ¬ (("turn" : Str) = "left") := by decide
  unfold putK srcK; simp [n1, n2, n3]
theorem put_mixed {q : Addr} {l m t x : Int} : putK (srcK q l m t) (.inr "mixed") (.int x) = srcK q l x t := by
  have n1 : ¬ (("cells" : Str) = "mixed") := by decide
  have n2 : ¬ (("left" : Str) = "mixed") := by decide
  have n3 : ¬ (("turn" : Str) = "mixed") := by decide
  unfold putK srcK; simp [n1, n2, n3]
theorem put_turn {q : Addr} {l m t x : Int} : putK (srcK q l m t) (.inr "turn") (.int x) = srcK q l m x := by
  have n1 : ¬ (("cells" : Str) = "turn") := by decide
  have n2 : ¬ (("left" : Str) = "turn") := by decide
  have n3 : ¬ (("mixed" : Str) = "turn") := by decide
  unfold putK srcK; simp [n1, n2, n3]
/-- the source at p, q with these contents; H0 beside -/
structure SrcIn (H0 H : Hp) (p q : Addr) (c : List Int) (l m t : Int) : Prop where
  ne : p ≠ q
  off : ∀ a, a ≠ p → a ≠ q → H a = H0 a
  atp : H p = some (.dK (srcK q l m t))
  atq : H q = some (.lst (c.map V.int))
section
variable {H0 H : Hp} {p q : Addr} {c : List Int} {l m t x : Int}
theorem SrcIn.left (s : SrcIn H0 H p q c l m t) (x : Int) : SrcIn H0 (upd H p (.dK (putK (srcK q l m t) (.inr "left") (.int x)))) p q c x m t :=
  ⟨s.ne, fun a h1 h2 => by rw [upd_ne h1]; exact s.off a h1 h2, by rw [upd_same, put_left], by rw [upd_ne s.ne.symm]; exact s.atq⟩
theorem SrcIn.mixed (s : SrcIn H0 H p q c l m t) (x : Int) : SrcIn H0 (upd H p (.dK (putK (srcK q l m t) (.inr "mixed") (.int x)))) p q c l x t :=
  ⟨s.ne, fun a h1 h2 => by rw [upd_ne h1]; exact s.off a h1 h2, by rw [upd_same, put_mixed], by rw [upd_ne s.ne.symm]; exact s.atq⟩
theorem SrcIn.turn (s : SrcIn H0 H p q c l m t) (x : Int) : SrcIn H0 (upd H p (.dK (putK (srcK q l m t) (.inr "turn") (.int x)))) p q c l m x :=
  ⟨s.ne, fun a h1 h2 => by rw [upd_ne h1]; exact s.off a h1 h2, by rw [upd_same, put_turn], by rw [upd_ne s.ne.symm]; exact s.atq⟩
theorem SrcIn.pop (s : SrcIn H0 H p q c l m t) : SrcIn H0 (upd H q (.lst ((c.map V.int).dropLast))) p q c.dropLast l m t :=
  ⟨s.ne, fun a h1 h2 => by rw [upd_ne h2]; exact s.off a h1 h2, by rw [upd_ne s.ne]; exact s.atp, by rw [upd_same, List.map_dropLast]⟩
/-! reading the source, writing it -/
def sG (x : Str) : TE := tDGet (tVar 0) (tC (.str x))
def sP (te : TE) (x : Str) : TS := tAsg te (gSub (tVar 0) (tC (.str x)) rSetD)
theorem sG_left {σ : L2.St} {Q : VK} (s : SrcIn H0 H p q c l m t) (e : σ[0]? = some (some (.ref p))) (h : Q (.int l) H) : sG "left" σ H Q := ⟨_, e, p, _, rfl, by have := DGet.k (k := .inr "left") s.atp; rw [val_left] at this; exact this, h⟩
theorem sG_mixed {σ : L2.St} {Q : VK} (s : SrcIn H0 H p q c l m t) (e : σ[0]? = some (some (.ref p))) (h : Q (.int m) H) : sG "mixed" σ H Q := ⟨_, e, p, _, rfl, by have := DGet.k (k := .inr "mixed") s.atp; rw [val_mixed] at this; exact this, h⟩
theorem sG_turn {σ : L2.St} {Q : VK} (s : SrcIn H0 H p q c l m t) (e : σ[0]? = some (some (.ref p))) (h : Q (.int t) H) : sG "turn" σ H Q := ⟨_, e, p, _, rfl, by have := DGet.k (k := .inr "turn") s.atp; rw [val_turn] at this; exact this, h⟩
theorem sG_cells {σ : L2.St} {Q : VK} (s : SrcIn H0 H p q c l m t) (e : σ[0]? = some (some (.ref p))) (h : Q (.ref q) H) : sG "cells" σ H Q := ⟨_, e, p, _, rfl, by have := DGet.k (k := .inr "cells") s.atp; rw [val_cells] at this; exact this, h⟩
theorem srcK_len : (srcK q l m t).length < sizeLine := by show 4 < sizeLine; rw [sizeLine_eq]; omega
def tLenK (K : PySem.W.Frag) (t : TA) : TE := tCB (fun xs H Q => ∃ x n, xs = [x] ∧ LenV K x H n ∧ Q (.int n) H) t
def tInt1 (t : TA) : TE := tCB (fun xs H Q => (∃ i, xs = [.int i] ∧ Q (.int i) H) ∨ ∃ k, xs = [.bl k] ∧ Q (.int (if k = true then 1 else 0)) H) t
def tMax2 (t : TA) : TE := tCB (fun xs H Q => ∃ i j, xs = [.int i, .int j] ∧ Q (.int (if j > i then j else i)) H) t
abbrev oGt (a b : TE) : TE := tOp (rI0 fun i j => .bl (decide (j < i))) a b
abbrev oLt (a b : TE) : TE := tOp (rI0 fun i j => .bl (decide (i < j))) a b
abbrev oAdd (a b : TE) : TE := tOp (rI0 fun i j => .int (i + j)) a b
abbrev oMul (a b : TE) : TE := tOp (rI CMul fun i j => .int (i * j)) a b
abbrev oMod (a b : TE) : TE := tOp (rI (fun _ j => 0 < j) fun i j => .int (i % j)) a b
abbrev oDiv (a b : TE) : TE := tOp (rI CDiv fun i j => .int (i / j)) a b
abbrev oI (i : Int) : TE := tC (.int i)
/-- while many > 1 and source['left'] < 2 and len(source['cells']) > 0: source['left'] = source['cells'].pop() -/
def tFill (K : PySem.W.Frag) : TS := tWhile (tAnd (tTest (oGt (tVar 1) (oI 1))) (tAnd (tTest (oLt (sG "left") (oI 2))) (tTest (oGt (tLenK K (tCons (sG "cells") tNil)) (oI 0)))))
  (sP (tBM0 K "list" rPop (sG "cells")) "left")
def tMany : TE := tMax2 (tCons (oI 1) (tCons (tVar 1) tNil))
def tTake : TS := tIfS (tOr (tTest (oLt (tVar 1) (oI 2))) (tTest (oGt (tVar 2) (oI 1)))) (tSeq (sP (oDiv (tVar 2) tMany) "left") (tRet (oMod (tInt1 (tCons (tVar 2) tNil)) tMany))) tNext
def tMix : TS := tSeq (sP (oAdd (sG "turn") (oI 1)) "turn") (tSeq (tAsg (oMod (tInt1 (tCons (oAdd (sG "mixed") (oMul (sG "turn") (oI 104729))) tNil)) (oI 998244353)) (gName 3))
  (tSeq (tAsg (oMod (tInt1 (tCons (oAdd (oMul (tVar 3) (tVar 3)) (oMul (sG "turn") (oI 17))) tNil)) (oI 2147483647)) (gName 3)) (tSeq (sP (tVar 3) "mixed") (tRet (oMod (tInt1 (tCons (oDiv (tVar 3) (oI 16)) tNil)) (tVar 1))))))
def tPick (K : PySem.W.Frag) : TS := tSeq (tFill K) (tSeq (tAsg (sG "left") (gName 2)) (tSeq tTake tMix))

theorem iteB {a A C : Prop} [Decidable a] (h1 : a → A) (h2 : ¬ a → C) : if decide a = true then A else C := by
  by_cases h : a
  · rw [if_pos (decide_eq_true h)]; exact h1 h
  · rw [if_neg (by simp [h])]; exact h2 h
theorem dl_mem {c : List Int} {x : Int} (h : x ∈ c.dropLast) : x ∈ c := List.dropLast_subset c h
theorem fill_reads {K : PySem.W.Frag} {D : L2.Ends} {many : Int} {y2 y3 : Option V} (s : SrcIn H0 H p q c l m t) (hc : ∀ x ∈ c, 0 ≤ x) (hl : 0 ≤ l)
    (h : ∀ H' c' l', SrcIn H0 H' p q c' l' m t → (∀ x ∈ c', 0 ≤ x) → 0 ≤ l' → D.nx [some (.ref p), some (.int many), y2, y3] H') : tFill K D [some (.ref p), some (.int many), y2, y3] H := by
  refine ⟨fun n σ H => σ = [some (.ref p), some (.int many), y2, y3] ∧ ∃ c' l', n = c'.length ∧ SrcIn H0 H p q c' l' m t ∧ (∀ x ∈ c', 0 ≤ x) ∧ 0 ≤ l', ⟨_, rfl, c, l, rfl, s, hc, hl⟩, ?_⟩
  rintro n σ H ⟨rfl, c', l', rfl, s, hc, hl⟩
  have fin := h H c' l' s hc hl
  refine ⟨_, rfl, many, 1, rfl, rfl, _, rfl, iteB (fun _ => ?_) fun _ => ?_⟩
  · refine sG_left s rfl ⟨l', 2, rfl, rfl, _, rfl, iteB (fun _ => ?_) fun _ => ?_⟩
    · refine sG_cells s rfl ⟨.ref q, _, rfl, .inl ⟨_, .inl (.inl s.atq), rfl⟩, _, 0, rfl, rfl, _, rfl, iteB (fun hlen => ?_) fun _ => ?_⟩
      · rw [List.length_map] at hlen
        have hne : c' ≠ [] := fun e => by rw [e] at hlen; exact absurd hlen (by decide)
        obtain ⟨y, hy⟩ : ∃ y, c'.getLast? = some y := ⟨_, List.getLast?_eq_getLast hne⟩
        have hy' : c'[c'.length - 1]? = some y := by rw [← List.getLast?_eq_getElem?]; exact hy
        have my : y ∈ c' := List.mem_of_getElem? hy'
        refine ⟨fun σ H => σ = [some (.ref p), some (.int many), y2, y3] ∧ ∃ l'', SrcIn H0 H p q c'.dropLast l'' m t ∧ 0 ≤ l'', fun σ' H' ⟨e, l'', s', hl'⟩ => ⟨_, ?_, e, _, l'', rfl, s', fun x hx => hc x (dl_mem hx), hl'⟩, ?_⟩
        · rw [List.length_dropLast]
          have := List.length_pos_iff.mpr hne
          omega
        · refine sG_cells s rfl ⟨.inl ⟨rfl, _, .inl (.inl s.atq)⟩, q, _, .int y, rfl, rfl, s.atq, ?_, _, rfl, p, _, rfl, DPut.k (k := .inr "left") s.pop.atp srcK_len, rfl, y, s.pop.left y, hc y my⟩
          rw [List.length_map, List.getElem?_map, hy']
          rfl
      · exact fin
    · exact fin
  · exact fin
theorem many_reads {σ : L2.St} {many : Int} {Q : VK} (e : σ[1]? = some (some (.int many))) (h : Q (.int (max 1 many)) H) : tMany σ H Q := by
  refine ⟨_, e, 1, many, rfl, ?_⟩
  rw [show (if many > 1 then many else 1) = max 1 many by split <;> omega]
  exact h
theorem pick_reads {K : PySem.W.Frag} {D : L2.Ends} {many : Int} (s : SrcIn H0 H p q c l m t) (hc : ∀ x ∈ c, 0 ≤ x) (hl : 0 ≤ l) (hm : 0 ≤ m) (hm2 : m < 2147483648) (hb : many < 1073741824)
    (h : ∀ H' c' l' m' t' r, SrcIn H0 H' p q c' l' m' t' → (∀ x ∈ c', 0 ≤ x) → 0 ≤ l' → 0 ≤ m' → m' < 2147483648 → 0 ≤ r → r < max 1 many → D.rt (.int r) H') : tPick K D [some (.ref p), some (.int many), none, none] H := by
  refine fill_reads s hc hl fun H1 c1 l1 s1 hc1 hl1 => ?_
  have mp : 0 < max 1 many := by omega
  have mq : max 1 many < 1073741824 := by omega
  refine sG_left s1 rfl ?_
  have take : (tSeq (sP (oDiv (tVar 2) tMany) "left") (tRet (oMod (tInt1 (tCons (tVar 2) tNil)) tMany))) { D with nx := tMix D } [some (.ref p), some (.int many), some (.int l1), none] H1 := by
    refine ⟨_, rfl, many_reads rfl ⟨l1, max 1 many, rfl, rfl, ⟨mp, mq⟩, _, rfl, p, _, rfl, DPut.k (k := .inr "left") s1.atp srcK_len, ?_⟩⟩
    exact ⟨_, rfl, .inl ⟨_, rfl, many_reads rfl ⟨l1, max 1 many, rfl, rfl, mp, h _ _ _ _ _ _ (s1.left _) hc1 (Int.ediv_nonneg hl1 (by omega)) hm hm2 (Int.emod_nonneg _ (by omega)) (Int.emod_lt_of_pos _ mp)⟩⟩⟩
  refine ⟨_, rfl, many, 2, rfl, rfl, _, rfl, iteB (fun _ => take) fun n2 => ⟨_, rfl, l1, 1, rfl, rfl, _, rfl, iteB (fun _ => take) fun _ => ?_⟩⟩
  show tMix D [some (.ref p), some (.int many), some (.int l1), none] H1
  have em : max 1 many = many := by omega
  have s2 := s1.turn (t + 1)
  refine sG_turn s1 rfl ⟨t, 1, rfl, rfl, _, rfl, p, _, rfl, DPut.k (k := .inr "turn") s1.atp srcK_len, ?_⟩
  refine sG_mixed s2 rfl (sG_turn s2 rfl ⟨t + 1, 104729, rfl, rfl, .inr ⟨by decide, by decide⟩, m, _, rfl, rfl, .inl ⟨_, rfl, _, 998244353, rfl, rfl, (by decide : (0 : Int) < 998244353), ?_⟩⟩)
  generalize hm3 : (m + (t + 1) * 104729) % 998244353 = m3
  have b3 : 0 ≤ m3 ∧ m3 < 998244353 := by rw [← hm3]; exact ⟨Int.emod_nonneg _ (by decide), Int.emod_lt_of_pos _ (by decide)⟩
  have hm3' : (m + (t + 1) * 104729) % 998244353 = m3 := hm3
  refine ⟨_, rfl, _, rfl, m3, m3, congrArg V.int hm3', congrArg V.int hm3', .inl ⟨by omega, by omega⟩, sG_turn s2 rfl ⟨t + 1, 17, rfl, rfl, .inr ⟨by decide, by decide⟩, _, _, rfl, rfl, .inl ⟨_, rfl, _, 2147483647, rfl, rfl, (by decide : (0 : Int) < 2147483647), ?_⟩⟩⟩
  generalize hm4 : (m3 * m3 + (t + 1) * 17) % 2147483647 = m4
  have b4 : 0 ≤ m4 ∧ m4 < 2147483647 := by rw [← hm4]; exact ⟨Int.emod_nonneg _ (by decide), Int.emod_lt_of_pos _ (by decide)⟩
  refine ⟨_, rfl, _, rfl, p, _, rfl, DPut.k (k := .inr "mixed") s2.atp srcK_len, _, rfl, m4, 16, congrArg V.int hm4, rfl, ⟨by decide, by decide⟩, .inl ⟨_, rfl, _, rfl, _, many, rfl, rfl, by omega, ?_⟩⟩
  exact h _ c1 l1 ((m3 * m3 + (t + 1) * 17) % 2147483647) (t + 1) (m4 / 16 % many) (s2.mixed _) hc1 hl1 (by rw [hm4]; exact b4.1) (by rw [hm4]; omega) (Int.emod_nonneg _ (by omega)) (by rw [em]; exact Int.emod_lt_of_pos _ (by omega))
/-- THE PROMISE of the def that draws -/
theorem cal_pick {P : Program} {w : World} {K : PySem.W.Frag} {mg : Str → Option Value} {base : Heap} {x : Str} {st : Stmt} {k : Nat} (M : Modl K mg) (Df : DefAt K x st) (Sc : FnScope ["source", "many", "left", "mixed"] ["source", "many"] (defScope st)) (hp : PlainPs x st ["source", "many"])
    (hbody : ∀ (f : Addr) (cdv : Value) (A : Around) (outer : List PySem.Env) (s : Shared) (H : Hp) (E : XK), (A.deeper (envOfC x (defScope st) s.heap.objs.size f cdv)).units + 1 < cLine →
      PSs (cxOf CX0 P w K mg base ["source", "many", "left", "mixed"] x (defScope st) f cdv A outer s H E).nox (defBody st) (tPick K)) : Cal P w K mg base (k + 1) x ["source", "many"] wPick := by
  obtain ⟨f, oc, od, an, osl, kV, doc, pm, cdv, ct, a, l, c, kp⟩ := Df.ex
  have F := fun_mk (st := st) l c kp
  refine ⟨wPick_mo, f, _, fn_ofG F Sc (fun vs H Q E h => ?_) (fun cdv A outer s H vs Q E hr hgd h => ⟨_, (hbody f cdv A outer s H E (by have := hr.un; omega)).nox, ?_⟩), M.at a, kp, F.binds hp⟩
  · obtain ⟨S, args, fps, _, h, many, e, _⟩ := h
    rw [h.len, e]; rfl
  · obtain ⟨S, args, fps, tr, h, many, rfl, hb, q⟩ := h
    obtain ⟨v0, v1, rfl⟩ : ∃ v0 v1, vs = [v0, v1] := by
      have := h.len
      match vs, this with
      | [v0, v1], _ => exact ⟨v0, v1, rfl⟩
    obtain ⟨_, w0, hS⟩ : false = false ∧ OwnP K S H v0 .src (fps 0) ∧ ∀ a ∈ fps 0, a ∈ S := h.each 0 v0 _ rfl rfl
    obtain ⟨r1, _⟩ : R K S H v1 (.int many) ∧ fps 1 = [] := h.each 1 v1 _ rfl rfl
    cases r1
    cases v0 with
    | ref p =>
      obtain ⟨q0, ef, ne, c, l, m, t, e1, e2, hc, hl, hm, hm2⟩ : ∃ q0, fps 0 = [p, q0] ∧ SrcAt H p q0 := w0
      refine pick_reads (H0 := H) (D := { nx := fun _ H' => Q .non H', rt := Q }) ⟨ne, fun _ _ _ => rfl, e1, e2⟩ hc hl hm hm2 hb fun H' c' l' m' t' r s' hc' hl' hm' hm2' h1 h2 => ?_
      refine q r h1 h2 (.int r) H' [] (fun a ha => by cases ha) (fun a o n e => ?_) (fun a o e => ?_) (fun i o e => ?_) ⟨rfl, .int r⟩
      · rw [s'.off a (fun z => n 0 (by rw [ef, z]; simp)) (fun z => n 0 (by rw [ef, z]; simp))]; exact e
      · by_cases z1 : a = p
        · rw [z1]; exact ⟨_, s'.atp⟩
        · by_cases z2 : a = q0
          · rw [z2]; exact ⟨_, s'.atq⟩
          · rw [s'.off a z1 z2]; exact ⟨o, e⟩
      · cases i with
        | zero =>
          cases e
          exact ⟨.ref p, rfl, q0, ef, ne, c', l', m', t', s'.atp, s'.atq, hc', hl', hm', hm2'⟩
        | succ i => cases i <;> cases e
    | _ => exact w0.elim
end
end DL

/-! DL16: a law's source: the promise of the def that makes it. -/
namespace DL
open PySem PySem.Spec PyProof.Rows L2

def sRetSrc (te tm : ET) : STy := fun D ρ => te ρ fun o ρ1 => ∃ ns : List Int, o = .v (.list (ns.map PyData.int)) ∧ (∀ x ∈ ns, 0 ≤ x) ∧ tm ρ1 fun o' ρ2 => ∃ m : Int, o' = .v (.int m) ∧ 0 ≤ m ∧ m < 2147483648 ∧ D.rt (.own .src) ρ2
theorem sRetSrc_mo {te tm : ET} (me : MoE te) (mm : MoE tm) : MoS (sRetSrc te tm) := fun D D' ρ l q => me _ _ _ (fun o ρ1 ⟨ns, e, h, q⟩ => ⟨ns, e, h, mm _ _ _ (fun o' ρ2 ⟨m, e, h1, h2, q⟩ => ⟨m, e, h1, h2, l.rt _ _ q⟩) q⟩) q
theorem merge_src {q : Addr} {l m t : Int} : mergeK [] (srcK q l m t) = srcK q l m t := by
  have n1 : ¬ (("cells" : Str) = "left") := by decide
  have n2 : ¬ (("cells" : Str) = "mixed") := by decide
  have n3 : ¬ (("cells" : Str) = "turn") := by decide
  have n4 : ¬ (("left" : Str) = "mixed") := by decide
  have n5 : ¬ (("left" : Str) = "turn") := by decide
  have n6 : ¬ (("mixed" : Str) = "turn") := by decide
  unfold mergeK srcK putK; simp [n1, n2, n3, n4, n5, n6]
section
variable {X : Cx} {B : BI} {e mv : Expr} {te tm : ET} {j k j1 j2 j3 j4 j5 j6 : Nat} {p1 p2 p3 p4 p5 p6 p7 p8 p9 p10 pd pos : Pos}
theorem ds_retSrc (hK : B.K = X.K) (he : ∀ fr, DE X (B.pin fr) e te) (hm : ∀ fr, DE X (B.pin fr) mv tm) :
    DS X B (.Return (some (.Dict [some (.Constant (.str "cells") j1 p4), some (.Constant (.str "left") j2 p5), some (.Constant (.str "mixed") j3 p6), some (.Constant (.str "turn") j4 p7)]
      [.Subscript e (.Slice none none (some (.UnaryOp .USub (.Constant (.int 1) k p1) p2)) p3) p8, .Constant (.int 1) j5 p9, mv, .Constant (.int 0) j6 p10] pd)) pos) (sRetSrc te tm) := by
  have me := (he []).mo
  have mm := (hm []).mo
  have he' : PE X e (fun σ H Q => ∃ fr, bE (B.pin fr) te σ H Q) := pinE fun fr => (he fr).pe
  have hm' : PE X mv (fun σ H Q => ∃ fr, bE (B.pin fr) tm σ H Q) := pinE fun fr => (hm fr).pe
  refine ⟨psOf (ps_ret (pe_disp (pps_cons pe_str (pe_revL he') (pps_cons pe_str pe_int (pps_cons pe_str hm' (pps_cons pe_str pe_int pps_nil)))) (by rfl) (by rfl) (fun z => by cases z) (Nat.le_of_ble_eq_true rfl))) fun D σ H ⟨S, ρ, D', g, l, q⟩ => fun p hp => ?_, sRetSrc_mo me mm⟩
  have h0p : B.H0 p = none := g.fresh0 hp
  have frp : ∀ x ∈ B.fr, x.1 ≠ p := fun x hx z => by
    have := (g.pin x hx).1
    rw [z, hp] at this; cases this
  have gp := g.pinned (o := .dK []) hp
  have k0 : Kp S H (p :: S) (upd H p (.dK [])) := kp_newL (fp := [p]) (same_new hp) fun a ha => by rw [List.mem_singleton.mp ha]; exact hp
  refine ⟨_, p :: S, ρ, gp, me _ _ _ (fun o ρ1 ⟨ns, eo, hns, q⟩ x S1 H1 k1 g1 h1 => ?_) q⟩
  subst eo
  cases (show R B.K S1 H1 x (.list (ns.map PyData.int)) from h1) with
  | @lst a xs _ hx rx lx =>
    rw [← hK]
    have exs := rx.ints_inv
    subst exs
    refine ⟨a, _, rfl, hx.imp (·.2) id |> LX.sq, fun q0 hq0 => ?_⟩
    have gq := g1.pinned (o := .lst (ns.map V.int).reverse) hq0
    have h0q : B.H0 q0 = none := g1.fresh0 hq0
    have k2 : Kp S1 H1 (q0 :: S1) (upd H1 q0 (.lst (ns.map V.int).reverse)) := kp_newL (fp := [q0]) (same_new hq0) fun a ha => by rw [List.mem_singleton.mp ha]; exact hq0
    have nepq : p ≠ q0 := fun z => by
      have := (g1.pin (p, .dK []) List.mem_cons_self).1
      rw [z, hq0] at this; cases this
    have frq : ∀ x ∈ B.fr, x.1 ≠ q0 := fun x hx z => by
      have := (g1.pin x (List.mem_cons_of_mem _ hx)).1
      rw [z, hq0] at this; cases this
    refine ⟨_, q0 :: S1, ρ1, gq, mm _ _ _ (fun o' ρ2 ⟨m, eo, m0, m1, q⟩ y S3 H3 k3 g3 h3 => ?_) q⟩
    subst eo
    cases (show R B.K S3 H3 y (.int m) from h3)
    have ap := g3.pin (p, .dK []) (List.mem_cons_of_mem _ List.mem_cons_self)
    have aq := g3.pin (q0, .lst (ns.map V.int).reverse) List.mem_cons_self
    refine ⟨ap.1, srcK q0 1 m 0, rfl, by show 4 ≤ 15; decide, ?_⟩
    rw [merge_src]
    -- the last step: p gets its entries
    have gsw : SR (B.pin ((p, .dK []) :: (q0, .lst (ns.map V.int).reverse) :: B.fr)) S3 σ H3 ρ2 := by
      refine SR.unpin (B := B) (fr := (q0, .lst (ns.map V.int).reverse) :: (p, .dK []) :: B.fr) (fr' := (p, .dK []) :: (q0, .lst (ns.map V.int).reverse) :: B.fr) g3 (fun x hx => ?_) (fun a h => h) (fun a h n => absurd h n) (fun x hx n => ?_) (fun x hx y hy n => ?_)
      · simp only [List.mem_cons] at hx ⊢
        rcases hx with h | h | h
        · exact .inr (.inl h)
        · exact .inl h
        · exact .inr (.inr h)
      · exact absurd (by simp only [List.mem_cons] at hx ⊢; rcases hx with h | h | h
                         · exact .inr (.inl h)
                         · exact .inl h
                         · exact .inr (.inr h)) n
      · exact absurd (by simp only [List.mem_cons] at hy ⊢; rcases hy with h | h | h
                         · exact .inr (.inl h)
                         · exact .inl h
                         · exact .inr (.inr h)) n
    obtain ⟨g4, k4⟩ := SR.repin (B := B) (o' := .dK (srcK q0 1 m 0)) gsw (fun x hx => by
      rcases List.mem_cons.mp hx with rfl | hx
      · exact nepq.symm
      · exact frp x hx) h0p
    have g5 : SR B S3 σ (upd H3 p (.dK (srcK q0 1 m 0))) ρ2 := SR.unpin (B := B) (fr := (p, .dK (srcK q0 1 m 0)) :: (q0, .lst (ns.map V.int).reverse) :: B.fr) (fr' := B.fr) g4 (fun x hx => List.mem_cons_of_mem _ (List.mem_cons_of_mem _ hx)) (fun a h => h) (fun a h n => absurd h n) (fun x hx n => by
        rcases List.mem_cons.mp hx with rfl | hx
        · exact h0p
        · rcases List.mem_cons.mp hx with rfl | hx
          · exact h0q
          · exact absurd hx n) (fun x hx y hy n => by
        rcases List.mem_cons.mp hy with rfl | hy
        · exact frp x hx
        · rcases List.mem_cons.mp hy with rfl | hy
          · exact frq x hx
          · exact absurd hy n)
    refine l.rt (.own .src) ρ2 (.ref p) S3 σ _ (k0.trans (k1.trans (k2.trans (k3.trans k4)))) g5 ⟨[p, q0], ⟨q0, rfl, nepq, ns.reverse, 1, m, 0, upd_same, ?_, fun x hx => hns x (List.mem_reverse.mp hx), by decide, m0, m1⟩, fun a ha => ?_, fun a ha => ?_⟩ q
    · rw [upd_ne nepq.symm, List.map_reverse]; exact aq.1
    · rcases List.mem_cons.mp ha with rfl | ha
      · exact ap.2
      · rw [List.mem_singleton.mp ha]; exact aq.2
    · rcases List.mem_cons.mp ha with rfl | ha
      · exact h0p
      · rw [List.mem_singleton.mp ha]; exact h0q
end
def W_src : FT := fnW 1 3 (sSeq (sSet 1 (eK (.int 11))) (sSeq (sFor (iAny (eV 0)) (.nm 2) (sSet 1 (e2 wMod (eB wInt1 (aCons (e2 wAdd (e2 wAdd (e2 wMul (eV 1) (eK (.int 69069))) (e2 wMul (eV 2) (eK (.int 31)))) (eK (.int 5))) aNil)) (eK (.int 2147483629)))))
  (sRetSrc (eLc (iAny (eV 0)) (.nm 2) tYesD (eB wAbs (aCons (eV 2) aNil)) [2]) (eV 1))))
theorem Cal.weak {P : Program} {w : World} {K : PySem.W.Frag} {mg : Str → Option Value} {base : Heap} {k : Nat} {x : Str} {ps : List Str} {G G' : FT} (C : Cal P w K mg base k x ps G) (m : MoF G') (h : ∀ args p, G' args p → G args p) : Cal P w K mg base k x ps G' := by
  obtain ⟨f, fd, F, q⟩ := C.ex
  have im : ∀ vs H Q E, spF K G' vs H Q E → spF K G vs H Q E := fun vs H Q E ⟨S, args, fps, t, a, q⟩ => ⟨S, args, fps, t, a, h _ _ q⟩
  exact ⟨m, f, fd, ⟨fun vs H Q E s => F.len vs H Q E (im _ _ _ _ s), fun A outer s H args us vs Q E r e b v sp => F.run A outer s H args us vs Q E r e b v (im _ _ _ _ sp)⟩, q⟩
theorem src_for {Dn : EndsD} {t : STy} (ht : t = (sSet 1 (e2 wMod (eB wInt1 (aCons (e2 wAdd (e2 wAdd (e2 wMul (eV 1) (eK (.int 69069))) (e2 wMul (eV 2) (eK (.int 31)))) (eK (.int 5))) aNil)) (eK (.int 2147483629))))) (x : D) :
    ∀ (ns : List Int) (m : Int) (c : Sl), 0 ≤ m → m < 2147483648 → (∀ m' c', 0 ≤ m' → m' < 2147483648 → Dn.nx [.d x, .d (.int m'), c']) → forW (.nm 2) t Dn (ns.map PyData.int) [.d x, .d (.int m), c]
  | [], m, c, h1, h2, h => h m c h1 h2
  | n :: r, m, c, h1, h2, h => by
    subst ht
    have b1 : 0 ≤ (m * 69069 + n * 31 + 5).fmod 2147483629 := by rw [Int.fmod_eq_emod_of_nonneg _ (by decide)]; exact Int.emod_nonneg _ (by decide)
    have b2 : (m * 69069 + n * 31 + 5).fmod 2147483629 < 2147483629 := by rw [Int.fmod_eq_emod_of_nonneg _ (by decide)]; exact Int.emod_lt_of_pos _ (by decide)
    exact ⟨.inl (.inr ⟨by decide, by decide⟩), .inl (.inr ⟨by decide, by decide⟩), by decide, src_for rfl x r _ _ b1 (by omega) h⟩
theorem src_lc {x : D} {m : Int} {fin : List D → Env → Prop} : ∀ (ns : List Int) (acc : List D), fin (acc ++ (ns.map fun n => PyData.int (if n < 0 then -n else n))) [.d x, .d (.int m), .un] → lcW (.nm 2) tYesD (eB wAbs (aCons (eV 2) aNil)) [2] fin (ns.map PyData.int) acc [.d x, .d (.int m), .un]
  | [], acc, h => by rw [List.map_nil, List.append_nil] at h; exact h
  | n :: r, acc, h => by
    refine src_lc r (acc ++ [.int (if n < 0 then -n else n)]) ?_
    rw [List.append_assoc]
    exact h
theorem W_src_ok {args : List Sl} {p : Ret → List Sl → Prop} (h : wSource args p) : W_src args p := by
  obtain ⟨ns, rfl, q⟩ := h
  refine ⟨rfl, src_for rfl _ ns 11 .un (by decide) (by decide) fun m c h1 h2 => ?_⟩
  refine src_lc ns [] ?_
  refine ⟨ns.map fun n => if n < 0 then -n else n, ?_, fun x hx => ?_, m, rfl, h1, h2, q⟩
  · rw [List.map_map]; rfl
  · obtain ⟨n, _, rfl⟩ := List.mem_map.mp hx
    split <;> omega
end DL

/-! DL17: the law's own def, as the end wants it. -/
namespace DL
open PySem PySem.Spec PyProof.Rows L2
theorem law_mk {P : Program} {w : World} {K : PySem.W.Frag} {mg : Str → Option Value} {x p : Str} {st : Stmt} {N : List Str} {k : Nat} {t : STy} {fa : Addr} (M : Modl K mg) (hfa : mg x = some (.ref fa)) (room : Room (k + 1) callerA) (Df : DefAt K x st) (Sc : FnScope N [p] (defScope st))
    (hbind : ∀ (kV doc pm : Value) (an : Option Addr) (cdv ct : Value) (u : Value), bindArgs (PySem.W.fnOf x x (defArgs st) (defBody st) (defScope st) .none kV doc pm an cdv ct) ⟨[u], []⟩ = pure [(p, u)])
    (hbody : ∀ (base : Heap) (f : Addr) (cdv : Value) (A : Around) (outer : List PySem.Env) (s : Shared) (H : Hp) (E : XK) (B : BI), B.K = K → Room k (A.deeper (envOfC x (defScope st) s.heap.objs.size f cdv)) → (A.deeper (envOfC x (defScope st) s.heap.objs.size f cdv)).guards = some [] →
      DSs (cxOf CX0 P w K mg base N x (defScope st) f cdv A outer s H E).nox B (defBody st) t) :
    MoF (fnW 1 N.length t) ∧ ∃ fd : FuncData, (∀ (s : Shared) (u : Value), BindsTo s fd ⟨[u], []⟩ [(p, u)]) ∧ ∀ base : Heap, K.In base → base.Ns mainGlobals mg → FnG P w K mg base CX0 (k + 1) fa fd [p] (spF K (fnW 1 N.length t)) := by
  obtain ⟨f, oc, od, an, osl, kV, doc, pm, cdv, ct, a, l, c, kp⟩ := Df.ex
  have e := hfa.symm.trans (M.at a)
  cases e
  refine ⟨fnW_mo (hbody {} fa .none callerA [] {} (fun _ => none) (fun _ _ _ => True) { K := K, H0 := fun _ => none, vs0 := [], fps0 := fun _ => [], SC := [], fr := [] } rfl (room.deeper _) (guards_deeper _ rfl)).mo, ?_⟩
  exact ⟨_, fun s u => .of_eq (hbind kV doc pm an cdv ct u), fun base _ _ => fn_okG (fun_mk (st := st) l c kp) Sc (hbody base fa)⟩
theorem globS {K : PySem.W.Frag} {mg : Str → Option Value} {x v : Str} {t : Tok} (M : Modl K mg) (h : PySem.W.nsIn K mainGlobals x = some (some (.str v t))) : GlobAt mg x (.str v) := ⟨_, M.at h, t, rfl⟩
theorem globI {K : PySem.W.Frag} {mg : Str → Option Value} {x : Str} {v : Int} {t : Tok} (M : Modl K mg) (h : PySem.W.nsIn K mainGlobals x = some (some (.int v t))) : GlobAt mg x (.int v) := ⟨_, M.at h, t, rfl⟩
/-- THE END, from the law's reading -/
theorem walk_end2 {l : PySem.W.OpenLaw} {n k : Nat} {q : Program} {loose : List Str} {XP : (Str → Option Value) → Heap → Prop} {YP : World → Heap → Prop} {d : DefRec} {K : Params → PySem.W.Frag} {G : FT} {x : Str}
    (hn : l.most = some n) (hn2 : n ≤ sizeLine) (hdf : d.params.defaults = []) (hr : Room k callerA) (hY : ∀ (w : World) (h : Heap), YP w h → (K w.params).In h)
    (F : ∀ (w : World) (mg : Str → Option Value) (fa : Addr) (h : Heap), (K w.params).In h → h.Ns mainGlobals mg → mg d.name = some (.ref fa) → MoF G ∧ ∃ fd : FuncData, (∀ (s : Shared) (u : Value), BindsTo s fd ⟨[u], []⟩ [(x, u)]) ∧
        ∀ base : Heap, (K w.params).In base → base.Ns mainGlobals mg → FnG l.prog w (K w.params) mg base CX0 k fa fd [x] (spF (K w.params) G))
    (hG : ∀ ns : List Int, ns.length ≤ n → G [.d (.list (ns.map PyData.int))] fun r _ => r = .d (.bool true)) : PySem.W.WalkO q loose XP YP l.row.toRowW d [] (fun f vs => PySem.call f vs) :=
  Att.attach_call hn hdf fun w s₀ s₁ mg mb fa o pm cd doc a vs ns Gr Y ho hd hcd hmg hobj hints hlen hgn => by
    obtain ⟨mG, fd, hb, hF⟩ := F w mg fa _ (hY w _ Y) Gr.T.g hmg
    exact law_end (hY w _ Y) Gr.T.g Gr.T.b Gr.T.builtins Gr.T.nolimit hgn hobj hints (Nat.le_trans hlen hn2) hr mG hF hb (hG ns hlen)
end DL

/-! DL18: plain lemmas over readings: loops, comprehensions, places, slices, what may be compared and shown. -/
namespace DL
open PySem PySem.Spec PyProof.Rows L2

/-! ### comprehensions -/
/-- each item gives one value -/
theorem lcW_map {α : Type} {i : Nat} {te : ET} {fin : List D → Env → Prop} {ρ : Env} (c f : α → D) (hi : ρ[i]? = some .un) : ∀ (xs : List α) (acc : List D),
    (∀ x ∈ xs, ∀ q : Op → Env → Prop, q (.v (f x)) (ρ.set i (.d (c x))) → te (ρ.set i (.d (c x))) q) → fin (acc ++ xs.map f) ρ → lcW (.nm i) tYesD te [i] fin (xs.map c) acc ρ
  | [], acc, _, h => by rw [List.map_nil, List.append_nil] at h; exact h
  | x :: r, acc, hb, h => by
    have e : wipeE (ρ.set i (.d (c x))) [i] = ρ := by
      show (ρ.set i (.d (c x))).set i .un = ρ
      rw [List.set_set]
      apply List.ext_getElem?
      intro j
      rw [List.getElem?_set]
      split
      · rename_i e; subst e
        split
        · exact hi.symm
        · rename_i hl; rw [List.getElem?_eq_none (by omega)]
      · rfl
    refine hb x List.mem_cons_self _ ?_
    show lcW (.nm i) tYesD te [i] fin (r.map c) (acc ++ [f x]) (wipeE (ρ.set i (.d (c x))) [i])
    rw [e]
    refine lcW_map c f hi r _ (fun y hy => hb y (List.mem_cons_of_mem _ hy)) ?_
    rw [List.append_assoc]
    exact h
/-- each item gives some value of P -/
theorem lcW_any {α β : Type} {i : Nat} {te : ET} {fin : List D → Env → Prop} {ρ : Env} (c : α → D) (f : β → D) (P : β → Prop) (hi : ρ[i]? = some .un) : ∀ (xs : List α) (acc : List D),
    (∀ x ∈ xs, ∀ q : Op → Env → Prop, (∀ y, P y → q (.v (f y)) (ρ.set i (.d (c x)))) → te (ρ.set i (.d (c x))) q) → (∀ ys : List β, ys.length = xs.length → (∀ y ∈ ys, P y) → fin (acc ++ ys.map f) ρ) → lcW (.nm i) tYesD te [i] fin (xs.map c) acc ρ
  | [], acc, _, h => by have := h [] rfl (fun _ h => by cases h); rw [List.map_nil, List.append_nil] at this; exact this
  | x :: r, acc, hb, h => by
    have e : wipeE (ρ.set i (.d (c x))) [i] = ρ := by
      show (ρ.set i (.d (c x))).set i .un = ρ
      rw [List.set_set]
      apply List.ext_getElem?
      intro j
      rw [List.getElem?_set]
      split
      · rename_i e; subst e
        split
        · exact hi.symm
        · rename_i hl; rw [List.getElem?_eq_none (by omega)]
      · rfl
    refine hb x List.mem_cons_self _ fun y hy => ?_
    show lcW (.nm i) tYesD te [i] fin (r.map c) (acc ++ [f y]) (wipeE (ρ.set i (.d (c x))) [i])
    rw [e]
    refine lcW_any c f P hi r _ (fun z hz => hb z (List.mem_cons_of_mem _ hz)) fun ys hl hP => ?_
    have := h (y :: ys) (by simp [hl]) (fun z hz => (List.mem_cons.mp hz).elim (fun e => e ▸ hy) (hP z))
    rw [List.append_assoc]
    exact this
/-- each item that passes the test gives one value -/
theorem lcW_filter {α : Type} {i : Nat} {tt : ETT} {te : ET} {fin : List D → Env → Prop} {ρ : Env} (c f : α → D) (g : α → Bool) (hi : ρ[i]? = some .un) : ∀ (xs : List α) (acc : List D),
    (∀ x ∈ xs, ∀ q : Bool → Env → Prop, q (g x) (ρ.set i (.d (c x))) → tt (ρ.set i (.d (c x))) q) → (∀ x ∈ xs, g x = true → ∀ q : Op → Env → Prop, q (.v (f x)) (ρ.set i (.d (c x))) → te (ρ.set i (.d (c x))) q) →
    fin (acc ++ (xs.filter g).map f) ρ → lcW (.nm i) tt te [i] fin (xs.map c) acc ρ
  | [], acc, _, _, h => by rw [List.filter_nil, List.map_nil, List.append_nil] at h; exact h
  | x :: r, acc, ht, hb, h => by
    have e : wipeE (ρ.set i (.d (c x))) [i] = ρ := by
      show (ρ.set i (.d (c x))).set i .un = ρ
      rw [List.set_set]
      apply List.ext_getElem?
      intro j
      rw [List.getElem?_set]
      split
      · rename_i e; subst e
        split
        · exact hi.symm
        · rename_i hl; rw [List.getElem?_eq_none (by omega)]
      · rfl
    refine ht x List.mem_cons_self _ ?_
    cases hg : g x with
    | true =>
      rw [if_pos rfl]
      refine hb x List.mem_cons_self hg _ ?_
      show lcW (.nm i) tt te [i] fin (r.map c) (acc ++ [f x]) (wipeE (ρ.set i (.d (c x))) [i])
      rw [e]
      refine lcW_filter c f g hi r _ (fun y hy => ht y (List.mem_cons_of_mem _ hy)) (fun y hy => hb y (List.mem_cons_of_mem _ hy)) ?_
      rw [List.append_assoc]
      rw [List.filter_cons_of_pos hg] at h
      exact h
    | false =>
      rw [if_neg (by decide)]
      show lcW (.nm i) tt te [i] fin (r.map c) acc (wipeE (ρ.set i (.d (c x))) [i])
      rw [e]
      refine lcW_filter c f g hi r _ (fun y hy => ht y (List.mem_cons_of_mem _ hy)) (fun y hy => hb y (List.mem_cons_of_mem _ hy)) ?_
      rw [List.filter_cons_of_neg (by rw [hg]; decide)] at h
      exact h

/-! ### loops -/
theorem forW_ind {α : Type} {i : Nat} {t : STy} {En : EndsD} (c : α → D) (J : List α → Env → Prop)
    (step : ∀ x r ρ (N : Env → Prop), J (x :: r) ρ → (∀ ρ', J r ρ' → N ρ') → t { En with nx := N, ct := N, bk := En.nx } (ρ.set i (.d (c x)))) (stop : ∀ ρ, J [] ρ → En.nx ρ) : ∀ (xs : List α) (ρ : Env), J xs ρ → forW (.nm i) t En (xs.map c) ρ
  | [], ρ, h => stop ρ h
  | x :: r, ρ, h => step x r ρ _ h fun ρ' h' => forW_ind c J step stop r ρ' h'
theorem while_ind {s : ETT} {t : STy} {En : EndsD} (J : Nat → Env → Prop)
    (step : ∀ m ρ (N : Nat → Env → Prop), J m ρ → (∀ m' ρ', m' < m → J m' ρ' → N m' ρ') → s ρ fun b ρ1 => if b = true then ∃ m', m' < m ∧ t { En with nx := N m', ct := N m', bk := En.nx } ρ1 else En.nx ρ1)
    (ms : MoT s) (mt : MoS t) : ∀ (m : Nat) (ρ : Env), J m ρ → sWhile s t En ρ := by
  have key : ∀ m ρ, J m ρ → ∀ k, m < k → whW s t En k ρ := by
    intro m
    induction m using Nat.strongRecOn with
    | ind m ih =>
      intro ρ h k hk
      cases k with
      | zero => omega
      | succ k =>
        have := step m ρ (fun m' ρ' => m' < m ∧ J m' ρ') h fun m' ρ' h1 h2 => ⟨h1, h2⟩
        refine ms _ _ _ (fun b ρ1 q => ite_mono (fun ⟨m', hm', q⟩ => ?_) id q) this
        refine mt _ _ _ ?_ q
        exact ⟨fun ρ2 (q2 : m' < m ∧ J m' ρ2) => ih m' hm' ρ2 q2.2 k (by omega), fun _ _ q2 => q2, fun _ q2 => q2, fun ρ2 (q2 : m' < m ∧ J m' ρ2) => ih m' hm' ρ2 q2.2 k (by omega)⟩
  intro m ρ h
  exact ⟨m + 1, key m ρ h _ (Nat.lt_succ_self m)⟩

/-! ### places, slices -/
theorem atI_zero {α : Type} (x : α) (r : List α) : atI (x :: r) 0 = some x := atI_nat (j := 0) rfl
theorem atI_at {α : Type} (xs : List α) (j : Nat) (h : j < xs.length) : atI xs (j : Int) = some xs[j] := atI_nat (List.getElem?_eq_getElem h)
theorem atI_back {α : Type} (xs : List α) (h : xs ≠ []) : atI xs (-1) = some (xs.getLast h) := by
  have := atI_last xs.dropLast (xs.getLast h)
  rw [List.dropLast_concat_getLast] at this
  exact this
theorem sIx_neg1 (n d : Nat) : HT.sIx n d (some (-1)) = n - 1 := by
  show (if (-1 : Int) < 0 then ((-1 : Int) + (n : Int)).toNat else min (-1 : Int).toNat n) = n - 1
  rw [if_pos (by decide)]; omega
theorem cut_from (ds : List D) (k : Nat) : cutD ds (some (k : Int)) none = ds.drop k := by
  unfold cutD
  rw [HT.sIx_none, HT.sIx_nat]
  by_cases h : k ≤ ds.length
  · rw [Nat.min_eq_left h, List.take_of_length_le (by rw [List.length_drop]; omega)]
  · rw [Nat.min_eq_right (by omega), Nat.sub_self, List.take_zero, List.drop_of_length_le (by omega)]
theorem cut_to (ds : List D) (k : Nat) : cutD ds none (some (k : Int)) = ds.take k := by
  unfold cutD
  rw [HT.sIx_none, HT.sIx_nat, List.drop_zero, Nat.sub_zero]
  by_cases h : k ≤ ds.length
  · rw [Nat.min_eq_left h]
  · rw [Nat.min_eq_right (by omega), List.take_length, List.take_of_length_le (by omega)]
theorem cut_init (ds : List D) : cutD ds none (some (-1)) = ds.dropLast := by
  unfold cutD
  rw [HT.sIx_none, sIx_neg1, List.drop_zero, Nat.sub_zero, List.dropLast_eq_take]
theorem cut_inner (ds : List D) : cutD ds (some 1) (some (-1)) = ds.tail.dropLast := by
  unfold cutD
  rw [sIx_neg1, show HT.sIx ds.length 0 (some 1) = min 1 ds.length from HT.sIx_nat ds.length 0 1]
  cases ds with
  | nil => rfl
  | cons x r =>
    rw [show min 1 (x :: r).length = 1 by rw [List.length_cons]; omega, List.dropLast_eq_take]
    show List.take ((r.length + 1) - 1 - 1) r = List.take (r.length - 1) r
    rfl
theorem cut_one_two (ds : List D) (a b : Nat) : cutD ds (some (a : Int)) (some (b : Int)) = (ds.take b).drop a := by
  unfold cutD
  rw [HT.sIx_nat, HT.sIx_nat]
  apply List.ext_getElem?
  intro i
  rw [List.getElem?_take, List.getElem?_drop, List.getElem?_drop, List.getElem?_take]
  by_cases ha : a ≤ ds.length
  · rw [Nat.min_eq_left ha]
    split
    · rw [if_pos (by omega)]
    · split
      · rw [List.getElem?_eq_none (by omega)]
      · rfl
  · rw [if_neg (by omega)]
    split
    · rw [List.getElem?_eq_none (by omega)]
    · rfl

/-! ### what may be compared, shown -/
/-- data of depth c at most, of weight w at most, its ints short -/
structure Fit (c w : Nat) (d : D) : Prop where
  lay : d.canLay0 = true
  dep : d.depth ≤ c
  sho : d.showable = true
  lea : d.leavesShort 13 = true
  wei : d.weight ≤ w
structure Fits (c w : Nat) (ds : List D) : Prop where
  lay : PyData.canLayAll0 ds = true
  dep : PyData.depthAll ds ≤ c
  sho : PyData.showableAll ds = true
  lea : PyData.leavesShortAll 13 ds = true
  wei : PyData.weightAll ds ≤ w
theorem Fit.mono {c w c' w' : Nat} {d : D} (h : Fit c w d) (h1 : c ≤ c') (h2 : w ≤ w') : Fit c' w' d := ⟨h.lay, Nat.le_trans h.dep h1, h.sho, h.lea, Nat.le_trans h.wei h2⟩
theorem Fit.eqOk {c w : Nat} {d : D} (h : Fit c w d) (hc : c ≤ 64) : eqOk d := by
  show (d.canLay0 && decide (d.depth ≤ 64)) = true
  rw [h.lay, decide_eq_true (Nat.le_trans h.dep hc)]
  rfl
theorem Fit.shownOk {c w : Nat} {d : D} (h : Fit c w d) (hc : c ≤ 64) (hw : w ≤ 2 ^ 20) : shownOk d := ⟨h.eqOk hc, h.sho, PyData.shown_fits (B := 13) (by decide) (by decide) h.lea (Nat.le_trans h.wei hw)⟩
theorem Fits.nil {c w : Nat} : Fits c w [] := ⟨rfl, Nat.zero_le _, rfl, rfl, Nat.zero_le _⟩
theorem Fits.cons {c w v : Nat} {d : D} {ds : List D} (h : Fit c w d) (t : Fits c v ds) : Fits c (w + 1 + v) (d :: ds) where
  lay := by unfold PyData.canLayAll0; rw [h.lay, t.lay]; rfl
  dep := by unfold PyData.depthAll; exact Nat.max_le.mpr ⟨h.dep, t.dep⟩
  sho := by unfold PyData.showableAll; rw [h.sho, t.sho]; rfl
  lea := by unfold PyData.leavesShortAll; rw [h.lea, t.lea]; rfl
  wei := by unfold PyData.weightAll; have := h.wei; have := t.wei; omega
theorem Fits.mono {c w c' w' : Nat} {d : List D} (h : Fits c w d) (h1 : c ≤ c') (h2 : w ≤ w') : Fits c' w' d := ⟨h.lay, Nat.le_trans h.dep h1, h.sho, h.lea, Nat.le_trans h.wei h2⟩
theorem Fits.all {c w : Nat} : ∀ {ds : List D}, (∀ d ∈ ds, Fit c w d) → Fits c ((w + 1) * ds.length) ds
  | [], _ => Fits.nil
  | d :: r, h => by
    have := Fits.cons (h d List.mem_cons_self) (Fits.all fun e he => h e (List.mem_cons_of_mem _ he))
    exact this.mono (Nat.le_refl _) (by rw [List.length_cons, Nat.mul_add, Nat.mul_one, Nat.add_comm]; exact Nat.le_refl _)
theorem Fit.list {c w : Nat} {ds : List D} (h : Fits c w ds) : Fit (c + 1) w (.list ds) where
  lay := by unfold PyData.canLay0; exact h.lay
  dep := by unfold PyData.depth; exact Nat.succ_le_succ h.dep
  sho := by unfold PyData.showable; exact h.sho
  lea := by unfold PyData.leavesShort; exact h.lea
  wei := by unfold PyData.weight; exact h.wei
theorem Fit.tuple {c w : Nat} {ds : List D} (h : Fits c w ds) : Fit (c + 1) w (.tuple ds) where
  lay := by unfold PyData.canLay0; exact h.lay
  dep := by unfold PyData.depth; exact Nat.succ_le_succ h.dep
  sho := by unfold PyData.showable; exact h.sho
  lea := by unfold PyData.leavesShort; exact h.lea
  wei := by unfold PyData.weight; exact h.wei
theorem Fit.int {i : Int} (h : i.natAbs < 10 ^ 12) : Fit 0 40 (.int i) where
  lay := rfl
  dep := Nat.le_refl _
  sho := by
    unfold PyData.showable
    refine decide_eq_true ?_
    by_cases h0 : i.natAbs = 0
    · rw [h0]; decide
    · exact Nat.lt_trans ((Nat.log2_lt h0).mpr (Nat.lt_trans h (by decide : 10 ^ 12 < 2 ^ 40))) (by decide)
  lea := by
    unfold PyData.leavesShort
    exact decide_eq_true (PyData.shown_int_le h)
  wei := by
    unfold PyData.weight
    split
    · omega
    · rename_i n
      have h0 : i.natAbs ≠ 0 := fun z => n (by simp; omega)
      have := (Nat.log2_lt h0).mpr (Nat.lt_trans h (by decide : 10 ^ 12 < 2 ^ 40))
      omega
theorem Fit.bool {b : Bool} : Fit 0 0 (.bool b) := ⟨rfl, Nat.le_refl _, rfl, rfl, Nat.le_refl _⟩
theorem Fit.none : Fit 0 0 .none := ⟨rfl, Nat.le_refl _, rfl, rfl, Nat.le_refl _⟩
theorem Fit.ints {ns : List Int} (h : ∀ n ∈ ns, n.natAbs < 10 ^ 12) : Fits 0 (41 * ns.length) (ns.map PyData.int) := by
  have := Fits.all (c := 0) (w := 40) (ds := ns.map PyData.int) fun d hd => by obtain ⟨n, hn, rfl⟩ := List.mem_map.mp hd; exact .int (h n hn)
  rw [List.length_map] at this
  exact this
theorem Fit.tupD {ns : List Int} (h : ∀ n ∈ ns, n.natAbs < 10 ^ 12) : Fit 1 (41 * ns.length) (tupD ns) := .tuple (Fit.ints h)
theorem eqv_self {c w : Nat} {d : D} (h : Fit c w d) : PyData.eqv d d = true := PySem.SeqAt.eqv_refl d h.lay
theorem eqvAll_ints : ∀ a b : List Int, PyData.eqvAll (a.map PyData.int) (b.map PyData.int) = decide (a = b)
  | [], [] => rfl
  | [], _ :: _ => rfl
  | _ :: _, [] => rfl
  | x :: xs, y :: ys => by
    show (PyData.eqv (.int x) (.int y) && PyData.eqvAll (xs.map PyData.int) (ys.map PyData.int)) = _
    rw [eqvAll_ints xs ys]
    show ((x == y) && decide (xs = ys)) = decide (x :: xs = y :: ys)
    by_cases h1 : x = y <;> by_cases h2 : xs = ys <;> simp [h1, h2]
theorem eqv_tupD (a b : List Int) : PyData.eqv (tupD a) (tupD b) = decide (a = b) := by unfold tupD; rw [PyData.eqv]; exact eqvAll_ints a b
theorem eqv_lst (a b : List Int) : PyData.eqv (.list (a.map PyData.int)) (.list (b.map PyData.int)) = decide (a = b) := by rw [PyData.eqv]; exact eqvAll_ints a b
theorem eqv_int (a b : Int) : PyData.eqv (.int a) (.int b) = decide (a = b) := by rw [PyData.eqv]; by_cases h : a = b <;> simp [h]
end DL
namespace DL
open PySem PySem.Spec PyProof.Rows L2
theorem lcW_mapE {α : Type} {i : Nat} {te : ET} {fin : List D → Env → Prop} {ρ : Env} {ds : List D} (c f : α → D) (xs : List α) (he : ds = xs.map c) (hi : ρ[i]? = some .un)
    (hb : ∀ x ∈ xs, ∀ q : Op → Env → Prop, q (.v (f x)) (ρ.set i (.d (c x))) → te (ρ.set i (.d (c x))) q) (h : fin (xs.map f) ρ) : lcW (.nm i) tYesD te [i] fin ds [] ρ := by
  subst he
  exact lcW_map c f hi xs [] hb (by rw [List.nil_append]; exact h)
theorem lcW_anyE {α β : Type} {i : Nat} {te : ET} {fin : List D → Env → Prop} {ρ : Env} {ds : List D} (c : α → D) (f : β → D) (P : β → Prop) (xs : List α) (he : ds = xs.map c) (hi : ρ[i]? = some .un)
    (hb : ∀ x ∈ xs, ∀ q : Op → Env → Prop, (∀ y, P y → q (.v (f y)) (ρ.set i (.d (c x)))) → te (ρ.set i (.d (c x))) q) (h : ∀ ys : List β, ys.length = xs.length → (∀ y ∈ ys, P y) → fin (ys.map f) ρ) : lcW (.nm i) tYesD te [i] fin ds [] ρ := by
  subst he
  exact lcW_any c f P hi xs [] hb fun ys h1 h2 => by rw [List.nil_append]; exact h ys h1 h2
theorem lcW_filterE {α : Type} {i : Nat} {tt : ETT} {te : ET} {fin : List D → Env → Prop} {ρ : Env} {ds : List D} (c f : α → D) (g : α → Bool) (xs : List α) (he : ds = xs.map c) (hi : ρ[i]? = some .un)
    (ht : ∀ x ∈ xs, ∀ q : Bool → Env → Prop, q (g x) (ρ.set i (.d (c x))) → tt (ρ.set i (.d (c x))) q) (hb : ∀ x ∈ xs, g x = true → ∀ q : Op → Env → Prop, q (.v (f x)) (ρ.set i (.d (c x))) → te (ρ.set i (.d (c x))) q)
    (h : fin ((xs.filter g).map f) ρ) : lcW (.nm i) tt te [i] fin ds [] ρ := by
  subst he
  exact lcW_filter c f g hi xs [] ht hb (by rw [List.nil_append]; exact h)
theorem rangeD_eq (lo : Int) (n : Nat) : rangeD lo n = (List.range n).map fun (i : Nat) => PyData.int (lo + (i : Int)) := rfl
theorem sz {n : Nat} (h : n ≤ 1000) : n ≤ sizeLine := Nat.le_of_lt (small1000 h)
theorem iteT' {a b : Prop} {c : Bool} (hc : c = true) (h : a) : if c = true then a else b := by rw [if_pos hc]; exact h
theorem iteF' {a b : Prop} {c : Bool} (hc : c = false) (h : b) : if c = true then a else b := by rw [if_neg (by rw [hc]; decide)]; exact h
theorem iteD {P : Prop} [Decidable P] {a b : Prop} (h1 : P → a) (h2 : ¬ P → b) : if decide P = true then a else b := by
  by_cases h : P
  · rw [if_pos (decide_eq_true h)]; exact h1 h
  · rw [if_neg (by simp [h])]; exact h2 h
theorem iteN {P : Prop} [Decidable P] {a b : Prop} (h1 : ¬ P → a) (h2 : P → b) : if (!decide P) = true then a else b := by
  by_cases h : P
  · rw [if_neg (by simp [h])]; exact h2 h
  · rw [if_pos (by simp [h])]; exact h1 h
end DL
namespace DL
open PySem PySem.Spec PyProof.Rows L2
theorem ifEq {b c : Bool} {A C : Prop} (e : b = c) (h : if c = true then A else C) : if b = true then A else C := by rw [e]; exact h
/-- a test on lists of ints, on tuples of ints -/
theorem fitL {ns : List Int} (h : ∀ n ∈ ns, n.natAbs < 10 ^ 12) : Fit 1 (41 * ns.length) (.list (ns.map PyData.int)) := .list (Fit.ints h)
theorem okL {ns : List Int} (h : ∀ n ∈ ns, n.natAbs < 10 ^ 12) : eqOk (.list (ns.map PyData.int)) := (fitL h).eqOk (by decide)
theorem okT {ns : List Int} (h : ∀ n ∈ ns, n.natAbs < 10 ^ 12) : eqOk (tupD ns) := (Fit.tupD h).eqOk (by decide)
theorem canLayInts : ∀ ns : List Int, PyData.canLayAll0 (ns.map PyData.int) = true
  | [] => rfl
  | n :: r => by
    show (PyData.canLay0 (.int n) && PyData.canLayAll0 (r.map PyData.int)) = true
    rw [canLayInts r]; rfl
theorem depthInts : ∀ ns : List Int, PyData.depthAll (ns.map PyData.int) = 0
  | [] => rfl
  | n :: r => by
    show max (PyData.depth (.int n)) (PyData.depthAll (r.map PyData.int)) = 0
    rw [depthInts r]; rfl
/-- ints of any size may be compared -/
theorem okLI (ns : List Int) : eqOk (.list (ns.map PyData.int)) := by
  show (PyData.canLayAll0 (ns.map PyData.int) && decide (PyData.depthAll (ns.map PyData.int) + 1 ≤ 64)) = true
  rw [canLayInts, depthInts]; rfl
theorem okTI (ns : List Int) : eqOk (tupD ns) := by
  show (PyData.canLayAll0 (ns.map PyData.int) && decide (PyData.depthAll (ns.map PyData.int) + 1 ≤ 64)) = true
  rw [canLayInts, depthInts]; rfl
theorem eqv_lst0 (a : List Int) : PyData.eqv (.list (a.map PyData.int)) (.list []) = decide (a = []) := eqv_lst a []
theorem atI_map {α β : Type} (f : α → β) (xs : List α) (i : Int) : atI (xs.map f) i = (atI xs i).map f := by
  unfold atI
  rw [List.length_map]
  cases ixN xs.length i with
  | none => rfl
  | some j => exact List.getElem?_map ..
theorem wD_at {xs : List Int} {i : Int} {q : D → Prop} {y : Int} (h : atI xs i = some y) (hq : q (.int y)) : wD (atI (xs.map PyData.int) i) q := by
  rw [atI_map, h]; exact hq
end DL
namespace DL
open PySem PySem.Spec PyProof.Rows L2
theorem whW_ind {s : ETT} {t : STy} {En : EndsD} (J : Nat → DL.Env → Prop)
    (step : ∀ m ρ (N : DL.Env → Prop), J m ρ → (∀ m' ρ', m' < m → J m' ρ' → N ρ') → s ρ fun b ρ1 => if b = true then t { En with nx := N, ct := N, bk := En.nx } ρ1 else En.nx ρ1) : ∀ k m ρ, m < k → J m ρ → whW s t En k ρ
  | 0, m, ρ, h, _ => absurd h (Nat.not_lt_zero _)
  | k + 1, m, ρ, h, hJ => step m ρ (whW s t En k) hJ fun m' ρ' h' hJ' => whW_ind J step k m' ρ' (by omega) hJ'
theorem sWh_ind {s : ETT} {t : STy} {En : EndsD} (J : Nat → DL.Env → Prop)
    (step : ∀ m ρ (N : DL.Env → Prop), J m ρ → (∀ m' ρ', m' < m → J m' ρ' → N ρ') → s ρ fun b ρ1 => if b = true then t { En with nx := N, ct := N, bk := En.nx } ρ1 else En.nx ρ1) {m : Nat} {ρ : DL.Env} (h : J m ρ) : sWhile s t En ρ :=
  ⟨m + 1, whW_ind J step _ m ρ (Nat.lt_succ_self m) h⟩
theorem wLt_tupD {a b : List Int} {q : D → Prop} (h : q (.bool (HT.lexLt a b))) : wLt (tupD a) (tupD b) q := by
  show wInts (intsOf (a.map PyData.int)) fun ns => wInts (intsOf (b.map PyData.int)) fun ms => q (.bool (HT.lexLt ns ms))
  rw [intsOf_map, intsOf_map]; exact h
theorem range_drop {n i x : Nat} {r : List Nat} (h : x :: r = (List.range n).drop i) : x = i ∧ r = (List.range n).drop (i + 1) ∧ i < n := by
  have hlt : i < n := by
    have := congrArg List.length h
    simp only [List.length_cons, List.length_drop, List.length_range] at this; omega
  rw [List.drop_eq_getElem_cons (by simpa using hlt)] at h
  injection h with h1 h2
  exact ⟨by rw [h1]; simp, h2, hlt⟩
theorem range_done {n i : Nat} (h : [] = (List.range n).drop i) : n ≤ i := by
  have := congrArg List.length h
  simp only [List.length_nil, List.length_drop, List.length_range] at this; omega
theorem toNat_cast {n : Nat} {i : Int} (h : i = (n : Int)) : i.toNat = n := by omega
theorem small62 {n : Nat} (h : n ≤ 1000) : -(2 ^ 62 : Int) ≤ (n : Int) ∧ (n : Int) < 2 ^ 62 := by omega
/-- range(a, b) -/
theorem rgW_of {i j : Int} {n : Nat} {p : List D → Prop} (hi : -(2 ^ 62) ≤ i ∧ i < 2 ^ 62) (hj : -(2 ^ 62) ≤ j ∧ j < 2 ^ 62) (hn : (j - i).toNat = n) (hz : n ≤ 1000) (h : p (rangeD i n)) : rgW i j p := ⟨⟨hi.1, hi.2, hj.1, hj.2⟩, by rw [hn]; exact sz hz, by rw [hn]; exact h⟩
end DL
namespace DL
open PySem PySem.Spec PyProof.Rows L2
theorem isTy_tup (xs : List D) : isTy "tuple" (.tuple xs) = true := by show (kitB "tuple" "tuple").getD false = true; decide +kernel
theorem isTy_tupL (xs : List D) : isTy "tuple" (.list xs) = false := by show (kitB "list" "tuple").getD false = false; decide +kernel
theorem isTy_tupN : isTy "tuple" .none = false := by show (kitB "NoneType" "tuple").getD false = false; decide +kernel
theorem isTy_intI (i : Int) : isTy "int" (.int i) = true := by show (kitB "int" "int").getD false = true; decide +kernel
theorem isTy_intB (i : Bool) : isTy "int" (.bool i) = true := by show (kitB "bool" "int").getD false = true; decide +kernel
theorem isTy_intS (i : Str) : isTy "int" (.str i) = false := by show (kitB "str" "int").getD false = false; decide +kernel
theorem isTy_boolI (i : Int) : isTy "bool" (.int i) = false := by show (kitB "int" "bool").getD false = false; decide +kernel
theorem isTy_boolB (i : Bool) : isTy "bool" (.bool i) = true := by show (kitB "bool" "bool").getD false = true; decide +kernel
theorem isTy_boolS (i : Str) : isTy "bool" (.str i) = false := by show (kitB "str" "bool").getD false = false; decide +kernel
theorem wBools_of {bs : List Bool} {q : List Bool → Prop} (h : q bs) : wBools (boolsOf (bs.map PyData.bool)) q := by
  rw [boolsOf_map]; exact h
theorem wBools_map {α : Type} {g : α → Bool} {xs : List α} {q : List Bool → Prop} (h : q (xs.map g)) : wBools (boolsOf (xs.map fun x => PyData.bool (g x))) q := by
  rw [show (xs.map fun x => PyData.bool (g x)) = (xs.map g).map PyData.bool by rw [List.map_map]; rfl]
  exact wBools_of h
theorem all_map {α : Type} (g : α → Bool) (xs : List α) : (xs.map g).all id = xs.all g := by rw [List.all_map]; rfl
def absI (x : Int) : Int := if x < 0 then -x else x
end DL
namespace DL
open PySem PySem.Spec PyProof.Rows L2
theorem Fit.str {x : Str} (h : (PyData.canLay0 (.str x) && PyData.leavesShort 13 (.str x) && decide (x.cps.size ≤ 100)) = true) : Fit 0 100 (.str x) := by
  rw [Bool.and_eq_true, Bool.and_eq_true, decide_eq_true_eq] at h
  exact ⟨h.1.1, Nat.le_refl _, rfl, h.1.2, h.2⟩
theorem shT {ns : List Int} (h : ∀ n ∈ ns, n.natAbs < 10 ^ 12) (hl : ns.length ≤ 1000) : shownOk (tupD ns) := (Fit.tupD h).shownOk (by decide) (by omega)
theorem shB {b : Bool} : shownOk (.bool b) := Fit.bool.shownOk (by decide) (by decide)
theorem shL {c w : Nat} {ds : List D} (h : Fits c w ds) (hc : c ≤ 60) (hw : w ≤ 2 ^ 20) : shownOk (.list ds) := (Fit.list h).shownOk (by omega) hw
/-- a text told twice -/
theorem same_str {s : Str} {A C : Prop} (h : C) : if (!decide (s = s)) = true then A else C := iteN (fun n => absurd rfl n) fun _ => h
end DL
namespace DL
open PySem PySem.Spec PyProof.Rows L2
theorem i_seq {t u : STy} {En : EndsD} {ρ : DL.Env} (h : t { En with nx := u En } ρ) : sSeq t u En ρ := h
end DL
namespace DL
open PySem PySem.Spec PyProof.Rows L2
theorem n_seq {t u : STy} {En : EndsD} {rt : Ret → DL.Env → Prop} {bk ct : DL.Env → Prop} {ρ : DL.Env} (h : t { En with nx := u En } ρ) : EndsD.nx { nx := sSeq t u En, rt := rt, bk := bk, ct := ct } ρ := h
theorem n_last {t : STy} {En : EndsD} {rt : Ret → DL.Env → Prop} {bk ct : DL.Env → Prop} {ρ : DL.Env} (h : t En ρ) : EndsD.nx { nx := t En, rt := rt, bk := bk, ct := ct } ρ := h
theorem i_nx {f : DL.Env → Prop} {rt : Ret → DL.Env → Prop} {bk ct : DL.Env → Prop} {ρ : DL.Env} (h : f ρ) : EndsD.nx { nx := f, rt := rt, bk := bk, ct := ct } ρ := h
end DL

/-! DL19: enumerate over a tuple or a list. -/
namespace DL
open PySem PySem.Spec PyProof.Rows L2
open AutoSeq1 (wpAny_loadPart')
theorem enum_newT (l : Addr) (items : Array Value) (n : Nat) (dct : Option Addr) (sl : Array (Option Value)) :
    Meets (Builtin.«enumerate.__new__» ⟨[.type "enumerate", .ref l], []⟩) (fun _ J s => s.heap.get? l = some { cls := .type "tuple", dict := dct, data := .seq items n, slots := sl } ∧
      J (.ok (.ret (.ref (s.heap.push { cls := .type "tuple_iterator", data := .fields #[.ref l, .int 0 0] }).objs.size)))
        { s with heap := (s.heap.push { cls := .type "tuple_iterator", data := .fields #[.ref l, .int 0 0] }).push { cls := .type "enumerate", data := .fields #[.none, .bool false, .ref s.heap.objs.size, rawInt 0, .none, .none] } }) :=
  .of_wp fun prog w A J s h => by
    obtain ⟨hp, g, d, tk, os⟩ := s; obtain ⟨hl, h⟩ := h
    have hsub := sub_enumerate
    have hL : Heap.IsTuple (Shared.heap ⟨hp, g, d, tk, os⟩) l items := ⟨_, hl, rfl, n, rfl⟩
    wp_walk using wpAny_loadPart' hl
    refine wpAny_stack_any fun st => wpAny_pure ?_
    split
    · rename_i c _ _ _ _ _
      cases (c == Value.type "enumerate")
      · wp_walk using wpAny_loadPart' hl, wpAny_pyIter_tuple hL
        exact ⟨_, rfl, h⟩
      · wp_walk using wpAny_loadPart' hl, wpAny_pyIter_tuple hL
        exact ⟨_, rfl, h⟩
    · wp_walk using wpAny_loadPart' hl, wpAny_pyIter_tuple hL
      exact ⟨_, rfl, h⟩
section
variable {prog : Program} {w : World} {A : Around} {E : Value → Shared → Prop} {s : Shared}
theorem call_enumT {l : Addr} {items : Array Value} {Q : Value → Shared → Prop} (hL : IsTup s.heap l items)
    (h : ∀ h', IsEnum h' (s.heap.objs.size + 1) s.heap.objs.size 0 .none → h'.IsTupleIter s.heap.objs.size l 0 → h'.objs.size = s.heap.objs.size + 2 →
      (∀ b o, s.heap.get? b = some o → h'.get? b = some o) → Q (.ref (s.heap.objs.size + 1)) { s with heap := h' }) :
    wpAny (model prog w) A (call (.type "enumerate") [.ref l]) Q E s := by
  obtain ⟨⟨c, dct, dt, sl⟩, hl, hc, n, hd⟩ := hL
  replace hc : c = .type "tuple" := hc
  replace hd : dt = .seq items n := hd
  subst hc hd
  refine callType_new PySem.F.called_enumerate (by decide) (PySem.F.typeCall_enumerate_1 _) (PySem.F.newCall_enumerate_1 _) (fun obj => PySem.F.args_object_init_2 obj _) PySem.F.entry_enumerate_new
    (enum_newT l items n dct sl) ⟨hl, ?_⟩
  have hz : (s.heap.push { cls := .type "tuple_iterator", data := .fields #[.ref l, .int 0 0] }).objs.size = s.heap.objs.size + 1 := Heap.size_push ..
  show _ ∧ _
  rw [hz]
  have he : IsEnum ((s.heap.push { cls := .type "tuple_iterator", data := .fields #[.ref l, .int 0 0] }).push
      { cls := .type "enumerate", data := .fields #[.none, .bool false, .ref s.heap.objs.size, rawInt 0, .none, .none] }) (s.heap.objs.size + 1) s.heap.objs.size 0 .none := by
    have := Heap.get?_push_size (s.heap.push { cls := .type "tuple_iterator", data := .fields #[.ref l, .int 0 0] })
      (o := { cls := .type "enumerate", data := .fields #[.none, .bool false, .ref s.heap.objs.size, rawInt 0, .none, .none] }) rfl
    rw [hz] at this; exact this
  refine ⟨⟨_, he, rfl⟩, h _ he ⟨_, Heap.get?_push_of_some _ (Heap.get?_push_size _ rfl), rfl, rfl⟩ (by rw [Heap.size_push, hz]) fun b o x => Heap.get?_push_of_some _ (Heap.get?_push_of_some _ x)⟩
end
section
variable {prog : Program} {w : World} {A : Around} {E : Value → Shared → Prop} {s : Shared}
theorem enum_endT {e it l : Addr} {i : Nat} {items : Array Value} {old : Value} {Q : Option Value → Shared → Prop} (hh : A.handled = none)
    (he : IsEnum s.heap e it i old) (hit : s.heap.IsTupleIter it l i) (hl : s.heap.IsTuple l items) (hx : items[i]? = none)
    (out : ∀ h', Heap.ExtBut it s.heap h' → Q none { s with heap := h' }) : wpAny (model prog w) A (pyNext (.ref e)) Q E s := by
  have ty : s.TypeIs (.ref e) "enumerate" := ⟨_, he, rfl⟩
  unfold pyNext
  refine wpAny_bind (wpAny_attempt (wpAny_callSpecial?_slot (name := Str.ofString "__next__") ty PySem.F.slot_enumerate_next
    (wpAny_call_entry PySem.F.slot_enumerate_next ty PySem.F.entry_enumerate_next ?_ (PySem.F.args_enumerate_next_1 _))))
  show wpAny _ _ (field (.ref e) 2 >>= _) _ _ _
  refine wpAny_bind (wpAny_field he rfl (x := .ref it) rfl (wpAny_bind (wpAny_nextOf_tuple_end hh hit hl hx fun h' x ext stop => ?_)))
  obtain ⟨o, ho, hc⟩ := stop
  exact wpAny_bind (wpAny_isInstance (T := "StopIteration") (b := true) ⟨o, ho, hc⟩ isSubtype_stop (wpAny_pure (out _ ext)))
end
/-- the tuple, the list at a at each turn, each item in a new pair -/
def IteT (K : PySem.W.Frag) (a : Addr) : It :=
  ⟨fun i H => ∃ (xs : List V) (x : V), SqT K H a xs ∧ xs[i]? = some x, fun i H v H' => ∃ T x, v = .ref T ∧ H T = none ∧ (∃ o : Obj, o.dict = none ∧ H' = upd H T (.frz o (.tup [.int (i : Nat), x]))) ∧ ∀ xs, SqT K H a xs → xs[i]? = some x, fun i H => ∃ xs : List V, SqT K H a xs ∧ xs.length ≤ i⟩
theorem turn_enumT {P : Program} {w : World} {K : PySem.W.Frag} {elts : List Expr} {kk : Nat} {tpos : Pos} (a e it : Addr) :
    Turn P w K (.Tuple elts kk tpos) (IteT K a) [e, it] e (fun i h => (∃ old, IsEnum h e it ((i : Nat) : Int) old) ∧ h.IsTupleIter it a i ∧ e ≠ it ∧ e ≠ a ∧ a ≠ it) where
  mem := by simp
  obj := fun i h st b hb => by
    obtain ⟨⟨old, he⟩, ⟨o, ho, hc, hd⟩, _⟩ := st
    have e' : b = e ∨ b = it := by simpa using hb
    rcases e' with z | z
    · rw [z]; exact ⟨_, he, fun v q => nomatch q⟩
    · rw [z]; exact ⟨o, ho, fun v q => by rw [hd] at q; cases q⟩
  keep := fun i h h' st k => let ⟨⟨old, he⟩, hi, hne⟩ := st; ⟨⟨old, k e (by simp) _ he⟩, hi.at fun o q => k it (by simp) o q, hne⟩
  item := by
    intro X hP hw hK hc i pins s σ H E I hf st hg
    subst hP hw hK
    obtain ⟨⟨old, he⟩, hit, hne, hea, hai⟩ := st
    obtain ⟨xs, x, hq, hx⟩ := hg
    obtain ⟨its, rv, p, hz⟩ := I.tuple hq
    have hel : e < s.heap.objs.size := Heap.lt_size he
    have hil : it < s.heap.objs.size := by obtain ⟨_, q, _⟩ := hit; exact Heap.lt_size q
    have hlt : i < its.toArray.size := by
      obtain ⟨u, hu, _⟩ := rv.get hx
      have := (List.getElem?_eq_some_iff.mp hu).1
      simpa using this
    refine wpAny_pyNext_enum_itemD (Draws.tuple (A := X.A.in1) (I.ok.hd hc) it a hai its.toArray) he ⟨hit, p⟩ hlt hne (by simp [hne, hea]) fun u h' tk hu ho hit' hT hsz hk => ?_
    obtain ⟨u', hu', ru⟩ := rv.get hx
    have eu : u = u' := by
      have hu : its[i]? = some u := by simpa using hu
      rw [hu'] at hu; exact (Option.some.inj hu).symm
    subst eu
    refine ⟨_, rfl, wpAny_letOwnedTupleGo_enum (s := { s with heap := h', toks := tk + 1 }) ho fun h'' he' sb => ?_⟩
    have hT2 : h''.get? s.heap.objs.size = some { cls := .type "tuple", data := .seq #[.int i tk, u] } := (sb.2 _ (Nat.ne_of_gt hel)).trans hT
    generalize hob : ({ cls := .type "tuple", data := .seq #[.int i tk, u] } : Obj) = ob at hT2
    have hdn : ob.dict = none := by rw [← hob]
    have new : ObjOk X.prog X.w (upd H s.heap.objs.size (.frz ob (.tup [.int (i : Nat), x]))) h'' s.heap.objs.size (.frz ob (.tup [.int (i : Nat), x])) :=
      ⟨hT2, by show 2 ≤ sizeLine; decide, [.int i tk, u], .cons ⟨_, rfl⟩ (.cons ru .nil), ⟨ob, hT2, by rw [← hob], _, by rw [← hob]⟩⟩
    have keep : ∀ b o, b ∉ [e, it] → s.heap.get? b = some o → h''.get? b = some o := fun b o hb q => (sb.2 b (fun z => hb (by simp [z]))).trans (hk b o (fun z => hb (by simp [z])) (fun z => hb (by simp [z])) q)
    have I1 : Inv X pins σ (upd H s.heap.objs.size (.frz ob (.tup [.int (i : Nat), x]))) { s with heap := h'', toks := tk + 1 } :=
      I.turnedNew (ch := [e, it]) keep hf (Nat.le_refl _) new
    refine ⟨.ref s.heap.objs.size, _, I1, rfl, ⟨_, x, rfl, I.hok.fresh (Nat.le_refl _), ⟨ob, hdn, rfl⟩, fun ys hy => by rw [I.tuple_inj hy hq]; exact hx⟩, ⟨⟨u, ?_⟩, hit'.1.at fun o q => (sb.2 it (Ne.symm hne)).trans q, hne, hea, hai⟩, fun b hb => ?_⟩
    · have e1 : ((i + 1 : Nat) : Int) = (i : Int) + 1 := by omega
      rw [e1]; exact he'
    · have hb' : b < s.heap.objs.size := by
        have e' : b = e ∨ b = it := by simpa using hb
        rcases e' with z | z
        · rw [z]; exact hel
        · rw [z]; exact hil
      rw [upd_ne (Nat.ne_of_lt hb')]
      exact (hf b hb).1
  done := by
    intro X hP hw hK hc i pins s σ H E I hf st hg
    subst hP hw hK
    obtain ⟨⟨old, he⟩, hit, hne, hea, hai⟩ := st
    obtain ⟨xs, hq, hx⟩ := hg
    obtain ⟨its, rv, p, hz⟩ := I.tuple hq
    obtain ⟨f0, f1, f2, f3, f4, f5⟩ := hf it (by simp)
    have hl := rv.length
    exact enum_endT (I.ok.hd hc) he hit p (by simp; omega) fun h' eb => ⟨rfl, I.turned (t' := s.toks) (fun b o hb q => eb b o hb q) f0 f1 f3 f4 f5⟩
  self := fun A i s Q E st h => let ⟨⟨_, he⟩, _⟩ := st; wpAny_pyIter_enum he h
def IteL (K : PySem.W.Frag) (a : Addr) : It :=
  ⟨fun i H => ∃ (xs : List V) (x : V), SqL K H a xs ∧ xs[i]? = some x, fun i H v H' => ∃ T x, v = .ref T ∧ H T = none ∧ (∃ o : Obj, o.dict = none ∧ H' = upd H T (.frz o (.tup [.int (i : Nat), x]))) ∧ ∀ xs, SqL K H a xs → xs[i]? = some x, fun i H => ∃ xs : List V, SqL K H a xs ∧ xs.length ≤ i⟩
theorem turn_enumL {P : Program} {w : World} {K : PySem.W.Frag} {elts : List Expr} {kk : Nat} {tpos : Pos} (a e it : Addr) :
    Turn P w K (.Tuple elts kk tpos) (IteL K a) [e, it] e (fun i h => (∃ old, IsEnum h e it ((i : Nat) : Int) old) ∧ h.IsListIter it a i ∧ e ≠ it ∧ e ≠ a ∧ a ≠ it) where
  mem := by simp
  obj := fun i h st b hb => by
    obtain ⟨⟨old, he⟩, ⟨o, ho, hc, hd⟩, _⟩ := st
    have e' : b = e ∨ b = it := by simpa using hb
    rcases e' with z | z
    · rw [z]; exact ⟨_, he, fun v q => nomatch q⟩
    · rw [z]; exact ⟨o, ho, fun v q => by rw [hd] at q; cases q⟩
  keep := fun i h h' st k => let ⟨⟨old, he⟩, hi, hne⟩ := st; ⟨⟨old, k e (by simp) _ he⟩, hi.at fun o q => k it (by simp) o q, hne⟩
  item := by
    intro X hP hw hK hc i pins s σ H E I hf st hg
    subst hP hw hK
    obtain ⟨⟨old, he⟩, hit, hne, hea, hai⟩ := st
    obtain ⟨xs, x, hq, hx⟩ := hg
    obtain ⟨its, rv, p, hz⟩ := I.list hq
    have hel : e < s.heap.objs.size := Heap.lt_size he
    have hil : it < s.heap.objs.size := by obtain ⟨_, q, _⟩ := hit; exact Heap.lt_size q
    have hlt : i < its.toArray.size := by
      obtain ⟨u, hu, _⟩ := rv.get hx
      have := (List.getElem?_eq_some_iff.mp hu).1
      simpa using this
    refine wpAny_pyNext_enum_itemD (Draws.list (A := X.A.in1) (I.ok.hd hc) it a hai its.toArray) he ⟨hit, p.isList⟩ hlt hne (by simp [hne, hea]) fun u h' tk hu ho hit' hT hsz hk => ?_
    obtain ⟨u', hu', ru⟩ := rv.get hx
    have eu : u = u' := by
      have hu : its[i]? = some u := by simpa using hu
      rw [hu'] at hu; exact (Option.some.inj hu).symm
    subst eu
    refine ⟨_, rfl, wpAny_letOwnedTupleGo_enum (s := { s with heap := h', toks := tk + 1 }) ho fun h'' he' sb => ?_⟩
    have hT2 : h''.get? s.heap.objs.size = some { cls := .type "tuple", data := .seq #[.int i tk, u] } := (sb.2 _ (Nat.ne_of_gt hel)).trans hT
    generalize hob : ({ cls := .type "tuple", data := .seq #[.int i tk, u] } : Obj) = ob at hT2
    have hdn : ob.dict = none := by rw [← hob]
    have new : ObjOk X.prog X.w (upd H s.heap.objs.size (.frz ob (.tup [.int (i : Nat), x]))) h'' s.heap.objs.size (.frz ob (.tup [.int (i : Nat), x])) :=
      ⟨hT2, by show 2 ≤ sizeLine; decide, [.int i tk, u], .cons ⟨_, rfl⟩ (.cons ru .nil), ⟨ob, hT2, by rw [← hob], _, by rw [← hob]⟩⟩
    have keep : ∀ b o, b ∉ [e, it] → s.heap.get? b = some o → h''.get? b = some o := fun b o hb q => (sb.2 b (fun z => hb (by simp [z]))).trans (hk b o (fun z => hb (by simp [z])) (fun z => hb (by simp [z])) q)
    have I1 : Inv X pins σ (upd H s.heap.objs.size (.frz ob (.tup [.int (i : Nat), x]))) { s with heap := h'', toks := tk + 1 } :=
      I.turnedNew (ch := [e, it]) keep hf (Nat.le_refl _) new
    refine ⟨.ref s.heap.objs.size, _, I1, rfl, ⟨_, x, rfl, I.hok.fresh (Nat.le_refl _), ⟨ob, hdn, rfl⟩, fun ys hy => by rw [I.list_inj hy hq]; exact hx⟩, ⟨⟨u, ?_⟩, hit'.1.at fun o q => (sb.2 it (Ne.symm hne)).trans q, hne, hea, hai⟩, fun b hb => ?_⟩
    · have e1 : ((i + 1 : Nat) : Int) = (i : Int) + 1 := by omega
      rw [e1]; exact he'
    · have hb' : b < s.heap.objs.size := by
        have e' : b = e ∨ b = it := by simpa using hb
        rcases e' with z | z
        · rw [z]; exact hel
        · rw [z]; exact hil
      rw [upd_ne (Nat.ne_of_lt hb')]
      exact (hf b hb).1
  done := by
    intro X hP hw hK hc i pins s σ H E I hf st hg
    subst hP hw hK
    obtain ⟨⟨old, he⟩, hit, hne, hea, hai⟩ := st
    obtain ⟨xs, hq, hx⟩ := hg
    obtain ⟨its, rv, p, hz⟩ := I.list hq
    obtain ⟨f0, f1, f2, f3, f4, f5⟩ := hf it (by simp)
    have hl := rv.length
    exact wpAny_pyNext_enum_end (I.ok.hd hc) he hit p.isList (by simp; omega) fun h' eb => ⟨rfl, I.turned (t' := s.toks) (fun b o hb q => eb b o hb q) f0 f1 f3 f4 f5⟩
  self := fun A i s Q E st h => let ⟨⟨_, he⟩, _⟩ := st; wpAny_pyIter_enum he h
/-! ### enumerate(e), e a list or a tuple -/
def iEnumV (K : PySem.W.Frag) (ta : TA) : TI := fun σ H J => ta σ H fun vs H1 => ∃ a, vs = [.ref a] ∧ (((∃ xs, SqL K H1 a xs) ∧ J (IteL K a) H1) ∨ ((∃ xs, SqT K H1 a xs) ∧ J (IteT K a) H1))
theorem pi_enumV {X : Cx} {e : Expr} {ta : TA} {p pos tpos : Pos} {elts : List Expr} {kk : Nat} (hg : Gl X "enumerate") (hm : X.mg "enumerate" = none) (ha : PA X [e] ta) (hs : starEach [e] X.env = [(false, eval e X.env)] := by rfl) :
    PI X (.Tuple elts kk tpos) (.Call (.Name "enumerate" p) [e] [] pos) (iEnumV X.K ta) := by
  refine ⟨fun pins s σ H J I h => Call_ (ld_blt I hg hm boot_enumerate (PyProof.Rows.callWith_type1 (thn (ha.run pos pins s σ H _ I h) fun us s1 hv => ?_) hs rfl))⟩
  obtain ⟨vs, H1, I1, r1, a, ex, q1⟩ := hv
  subst ex
  cases r1 with
  | cons r rr =>
    cases rr
    cases r
    have far : ∀ b, b = s1.heap.objs.size + 1 ∨ b = s1.heap.objs.size → s1.heap.objs.size ≤ b := fun b e' => by rcases e' with z | z <;> omega
    rcases q1 with ⟨⟨xs, hq⟩, q⟩ | ⟨⟨xs, hq⟩, q⟩
    · obtain ⟨its, rv, p', _⟩ := I1.list hq
      have hlt : a < s1.heap.objs.size := p'.lt
      refine call_enumerate_list p'.isList fun h' he hit hsz hk => wpAny_pyIter_enum he ?_
      refine ⟨s1.heap.objs.size + 1, [s1.heap.objs.size + 1, s1.heap.objs.size], _, _, H1, rfl, I1.kept (t' := s1.toks) hk, turn_enumL a (s1.heap.objs.size + 1) s1.heap.objs.size, ⟨⟨.none, he⟩, hit, Nat.succ_ne_self _, Nat.ne_of_gt (Nat.lt_succ_of_lt hlt), Nat.ne_of_lt hlt⟩, fun b hb => ?_, q⟩
      have hle := far b (by simpa using hb)
      exact I1.fpOk hle (I1.hok.fresh hle)
    · obtain ⟨its, rv, p', _⟩ := I1.tuple hq
      have hlt : a < s1.heap.objs.size := by obtain ⟨_, e, _⟩ := p'; exact Heap.lt_size e
      refine call_enumT p' fun h' he hit hsz hk => wpAny_pyIter_enum he ?_
      refine ⟨s1.heap.objs.size + 1, [s1.heap.objs.size + 1, s1.heap.objs.size], _, _, H1, rfl, I1.kept (t' := s1.toks) hk, turn_enumT a (s1.heap.objs.size + 1) s1.heap.objs.size, ⟨⟨.none, he⟩, hit, Nat.succ_ne_self _, Nat.ne_of_gt (Nat.lt_succ_of_lt hlt), Nat.ne_of_lt hlt⟩, fun b hb => ?_, q⟩
      have hle := far b (by simpa using hb)
      exact I1.fpOk hle (I1.hok.fresh hle)
def enumD : Nat → List D → List D
  | _, [] => []
  | k, d :: r => .tuple [.int (k : Int), d] :: enumD (k + 1) r
theorem enumD_length : ∀ (k : Nat) (ds : List D), (enumD k ds).length = ds.length
  | _, [] => rfl
  | k, d :: r => congrArg (· + 1) (enumD_length (k + 1) r)
theorem enumD_get : ∀ (k : Nat) (ds : List D) (i : Nat), (enumD k ds)[i]? = (ds[i]?).map fun d => .tuple [.int ((k + i : Nat) : Int), d]
  | _, [], i => by simp [enumD]
  | k, d :: r, 0 => by simp [enumD]
  | k, d :: r, i + 1 => by
    have := enumD_get (k + 1) r i
    rw [show k + 1 + i = k + (i + 1) by omega] at this
    simpa [enumD] using this
section
variable {K : PySem.W.Frag} {S : List Addr} {H : Hp} {a : Addr} {xs : List V} {ds : List D}
theorem pair_new {S' : List Addr} {H' : Hp} {T : Addr} {x : V} {d : D} {i : Nat} {o : Obj} (hd : o.dict = none) (tr : ∀ a ∈ S', ∃ o, H' a = some o) (nT : H' T = none) (r : R K S' H' x d) :
    Same H' (upd H' T (.frz o (.tup [.int (i : Nat), x]))) ∧ R K S' (upd H' T (.frz o (.tup [.int (i : Nat), x]))) (.ref T) (.tuple [.int ((0 + i : Nat) : Int), d]) := by
  have sm : Same H' (upd H' T (.frz o (.tup [.int (i : Nat), x]))) := same_new nT
  refine ⟨sm, .tup (.inl ⟨notS tr nT, NewT.at hd⟩) (.cons ?_ (.one (r.kp (Kp.same sm)))) (sz (by show 2 ≤ 1000; omega))⟩
  rw [Nat.zero_add]; exact .int _
theorem ite_at (h : (a ∉ S ∧ Rd H a (.lst xs)) ∨ KL K a xs) (r : RA K S H xs ds) (hl : ds.length ≤ sizeLine) : ItAt K S H (IteL K a) (enumD 0 ds) := ⟨by rw [enumD_length]; exact hl, fun i S' H' k tr => by
  have hq : SqL K H' a xs := LX.sq (h.imp (fun h => (k.rd h.1 h.2).2) id)
  rw [enumD_length]
  refine ⟨fun hi => ?_, fun hi => ⟨xs, hq, by rw [r.length]; exact hi⟩⟩
  have hix : i < xs.length := by rw [r.length]; exact hi
  refine ⟨⟨xs, xs[i], hq, List.getElem?_eq_getElem hix⟩, fun x H2 hy => ?_⟩
  obtain ⟨T, x', rfl, nT, ⟨o, hd, rfl⟩, hx⟩ := hy
  obtain ⟨d, e, rd⟩ := r.getV (hx xs hq)
  obtain ⟨s1, s2⟩ := pair_new (i := i) hd tr nT (rd.kp k)
  exact ⟨s1, _, by rw [enumD_get, e]; rfl, s2⟩⟩
theorem iteT_at (h : (a ∉ S ∧ RdT H a xs) ∨ KT' K a xs) (r : RA K S H xs ds) (hl : ds.length ≤ sizeLine) : ItAt K S H (IteT K a) (enumD 0 ds) := ⟨by rw [enumD_length]; exact hl, fun i S' H' k tr => by
  have hq : SqT K H' a xs := h.imp (fun h => (k.rdT h.1 h.2).2.rd) KT'.t
  rw [enumD_length]
  refine ⟨fun hi => ?_, fun hi => ⟨xs, hq, by rw [r.length]; exact hi⟩⟩
  have hix : i < xs.length := by rw [r.length]; exact hi
  refine ⟨⟨xs, xs[i], hq, List.getElem?_eq_getElem hix⟩, fun x H2 hy => ?_⟩
  obtain ⟨T, x', rfl, nT, ⟨o, hd, rfl⟩, hx⟩ := hy
  obtain ⟨d, e, rd⟩ := r.getV (hx xs hq)
  obtain ⟨s1, s2⟩ := pair_new (i := i) hd tr nT (rd.kp k)
  exact ⟨s1, _, by rw [enumD_get, e]; rfl, s2⟩⟩
end
def iEnu (te : ET) : IT := fun ρ p => te ρ fun o ρ1 => match o with
  | .v (.list ds) => p (enumD 0 ds) ρ1
  | .v (.tuple ds) => p (enumD 0 ds) ρ1
  | _ => False
theorem di_enum {X : Cx} {B : BI} {e : Expr} {te : ET} {p pos tpos : Pos} {elts : List Expr} {kk : Nat} (hK : B.K = X.K) (hg : Gl X "enumerate") (hm : X.mg "enumerate" = none) (he : DE X B e te) (hs : starEach [e] X.env = [(false, eval e X.env)] := by rfl)
    (h1 : starEach (e :: []) X.env = (false, eval e X.env) :: starEach [] X.env := by rfl) : DI X B (.Tuple elts kk tpos) (.Call (.Name "enumerate" p) [e] [] pos) (iEnu te) :=
  ⟨piOf (pi_enumV hg hm (pa_cons he.pe pa_nil h1) hs) fun σ H Q ⟨S, ρ, g, q⟩ => ⟨S, ρ, g, he.mo _ _ _ (fun o ρ1 q x S1 H1 k1 g1 h1 => by
    split at q
    · rename_i ds
      cases (show R B.K S1 H1 x (.list ds) from h1) with
      | lst h r l => rw [← hK]; exact ⟨_, rfl, .inl ⟨⟨_, LX.sq (h.imp (·.2) id)⟩, q _ S1 H1 k1 g1 (ite_at h r l)⟩⟩
    · rename_i ds
      cases (show R B.K S1 H1 x (.tuple ds) from h1) with
      | tup h r l => rw [← hK]; exact ⟨_, rfl, .inr ⟨⟨_, tq h⟩, q _ S1 H1 k1 g1 (iteT_at h r l)⟩⟩
    · exact q.elim) q⟩, fun ρ p p' h q => he.mo _ _ _ (fun o ρ1 q => by
    split at q
    · exact h _ _ q
    · exact h _ _ q
    · exact q) q⟩
end DL

/-! DL20: in, not in; sorted of ints; list(range(..)); a list of one's own from list(..). -/
namespace DL
open PySem PySem.Spec PyProof.Rows L2

/-! ### in, not in: lists and tuples -/
def flatD : D → Bool
  | .none => true
  | .bool _ => true
  | .int _ => true
  | .str _ => true
  | _ => false
def anyD (x : D) (ds : List D) : Bool := ds.any fun z => PyData.eqv z x
def wIn : W2
  | x, .list ds, q => ((flatD x = true ∧ ds.all flatD = true) ∨ (eqOk x ∧ eqOk (.list ds))) ∧ q (.bool (anyD x ds))
  | x, .tuple ds, q => (flatD x = true ∧ ds.all flatD = true) ∧ q (.bool (anyD x ds))
  | _, _, _ => False
def wNotIn : W2
  | x, .list ds, q => ((flatD x = true ∧ ds.all flatD = true) ∨ (eqOk x ∧ eqOk (.list ds))) ∧ q (.bool (!anyD x ds))
  | x, .tuple ds, q => (flatD x = true ∧ ds.all flatD = true) ∧ q (.bool (!anyD x ds))
  | _, _, _ => False
theorem wIn_mo : Mo2 wIn := fun d e p p' h q => by
  unfold wIn at *; split at q <;> first | exact ⟨q.1, h _ q.2⟩ | exact q
theorem wNotIn_mo : Mo2 wNotIn := fun d e p p' h q => by
  unfold wNotIn at *; split at q <;> first | exact ⟨q.1, h _ q.2⟩ | exact q
section
variable {K : PySem.W.Frag} {S : List Addr} {H : Hp}
theorem R.flat {v : V} {d : D} (r : R K S H v d) (h : flatD d = true) : flatV v = true := by
  cases r <;> first | rfl | cases h
theorem RB.flat {v : V} {d : D} (r : RB K S H v d) (h : flatD d = true) : flatV v = true := by
  cases r <;> first | rfl | cases h
theorem flat_eqv {v x : V} {d e : D} (r : R K S H v d) (rx : RB K S H x e) (h : flatD d = true) (hx : flatD e = true) : eqV v x = PyData.eqv d e := by
  cases r <;> first | cases h | skip
  all_goals cases rx <;> first | (cases hx; done) | simp [eqV, PyData.eqv]
theorem RA.flat_any {x : V} {e : D} (rx : RB K S H x e) (hx : flatD e = true) : ∀ {vs : List V} {ds : List D}, RA K S H vs ds → ds.all flatD = true → vs.all flatV = true ∧ inV x vs = anyD e ds
  | _, _, .nil, _ => ⟨rfl, rfl⟩
  | _, _, .cons (v := v) (vs := vs) (d := d) (ds := ds) r t, h => by
    rw [List.all_cons, Bool.and_eq_true] at h
    obtain ⟨h1, h2⟩ := RA.flat_any rx hx t h.2
    refine ⟨by rw [List.all_cons, r.flat h.1, h1]; rfl, ?_⟩
    unfold inV anyD at *
    rw [List.any_cons, List.any_cons, h2, flat_eqv r rx h.1 hx]
def rInX (K : PySem.W.Frag) : R2 := fun x y H Q => rIn K false x y H Q ∨ rInD K x y H Q
def rNotInX (K : PySem.W.Frag) : R2 := fun x y H Q => rIn K true x y H Q ∨ rNotInD K x y H Q
theorem sv_in : Sv2 K (rInX K) wIn := fun S H x y d e Q tr rx ry h => by
  unfold wIn at h
  split at h
  · rename_i ds
    cases ry with
    | lst hy ry ly =>
      rcases h.1 with c | c
      · obtain ⟨f1, f2⟩ := RA.flat_any rx c.1 ry c.2
        exact .inl ⟨_, _, rfl, .inl hy.sq, rx.flat c.1, f1, by rw [if_neg (by decide), f2]; exact h.2 _ H (Same.refl H) (.bl _)⟩
      · exact .inr ⟨_, _, rx.dp c.1.nd, RB.dp c.2.nd (.lst hy ry ly), c.1, c.2, h.2 _ H (Same.refl H) (.bl _)⟩
  · rename_i ds
    cases ry with
    | tup hy ry ly =>
      obtain ⟨f1, f2⟩ := RA.flat_any rx h.1.1 ry h.1.2
      exact .inl ⟨_, _, rfl, .inr (tq hy), rx.flat h.1.1, f1, by rw [if_neg (by decide), f2]; exact h.2 _ H (Same.refl H) (.bl _)⟩
  · exact h.elim
theorem sv_notIn : Sv2 K (rNotInX K) wNotIn := fun S H x y d e Q tr rx ry h => by
  unfold wNotIn at h
  split at h
  · rename_i ds
    cases ry with
    | lst hy ry ly =>
      rcases h.1 with c | c
      · obtain ⟨f1, f2⟩ := RA.flat_any rx c.1 ry c.2
        exact .inl ⟨_, _, rfl, .inl hy.sq, rx.flat c.1, f1, by rw [if_pos rfl, f2]; exact h.2 _ H (Same.refl H) (.bl _)⟩
      · exact .inr ⟨_, _, rx.dp c.1.nd, RB.dp c.2.nd (.lst hy ry ly), c.1, c.2, h.2 _ H (Same.refl H) (.bl _)⟩
  · rename_i ds
    cases ry with
    | tup hy ry ly =>
      obtain ⟨f1, f2⟩ := RA.flat_any rx h.1.1 ry h.1.2
      exact .inl ⟨_, _, rfl, .inr (tq hy), rx.flat h.1.1, f1, by rw [if_pos rfl, f2]; exact h.2 _ H (Same.refl H) (.bl _)⟩
  · exact h.elim
/-! ### sorted -/
def wSortI : WA := fun ds q => ∃ ns : List Int, ds = [.list (ns.map PyData.int)] ∧ ∀ ns' : List Int, ns'.Perm ns → ns'.Pairwise (· ≤ ·) → q (.list (ns'.map PyData.int))
theorem wSortI_mo : MoWA wSortI := fun d p p' h ⟨ns, e, q⟩ => ⟨ns, e, fun m a b => h _ (q m a b)⟩
theorem sv_sortI : SvA K (rSortedI K) wSortI := fun S H xs ds Q tr r ⟨ns, e, q⟩ => by
  subst e
  obtain ⟨x, rfl, rb⟩ := r.one
  cases rb with
  | lst hx rx lx =>
    rw [rx.ints_inv] at hx
    refine ⟨_, ns, rfl, hx.sq, fun ns' p a b hp => q ns' a b _ _ (same_new hp) (.lst (.inl ⟨notS tr hp, .inl upd_same⟩) (RA.ints ns') ?_)⟩
    rw [List.length_map] at lx ⊢
    rw [a.length_eq]; exact lx
end
section
variable {X : Cx} {B : BI} {a b : Expr} {es : List Expr} {ta tb : ET} {tas : ETA} {p p2 pos pos2 : Pos}
theorem d_in (hK : B.K = X.K) (hu : X.A.units + 66 < cLine) (ha : DE X B a ta) (hb : DE X B b tb) (hm : behindInMarks .In b = false := by rfl) : DE X B (.Compare a [.In] [b] pos) (e2 wIn ta tb) := d_cmp (OpR.or op_in_seq (op_inD (by omega))) wIn_mo (hK ▸ sv_in) ha hb hm
theorem d_notIn (hK : B.K = X.K) (hu : X.A.units + 66 < cLine) (ha : DE X B a ta) (hb : DE X B b tb) (hm : behindInMarks .NotIn b = false := by rfl) : DE X B (.Compare a [.NotIn] [b] pos) (e2 wNotIn ta tb) := d_cmp (OpR.or op_notIn_seq (op_notInD (by omega))) wNotIn_mo (hK ▸ sv_notIn) ha hb hm
theorem dt_in (hK : B.K = X.K) (hu : X.A.units + 66 < cLine) (ha : DE X B a ta) (hb : DE X B b tb) (hm : behindInMarks .In b = false := by rfl) : DT X B (.Compare a [.In] [b] pos) (tB' (e2 wIn ta tb)) := d_tcmp (OpR.or op_in_seq (op_inD (by omega))) wIn_mo (hK ▸ sv_in) ha hb hm
theorem dt_notIn (hK : B.K = X.K) (hu : X.A.units + 66 < cLine) (ha : DE X B a ta) (hb : DE X B b tb) (hm : behindInMarks .NotIn b = false := by rfl) : DT X B (.Compare a [.NotIn] [b] pos) (tB' (e2 wNotIn ta tb)) := d_tcmp (OpR.or op_notIn_seq (op_notInD (by omega))) wNotIn_mo (hK ▸ sv_notIn) ha hb hm
theorem d_sorted (hK : B.K = X.K) (hg : Gl X "sorted") (hm : X.mg "sorted" = none) (ha : DA X B (a :: es) tas) (h1 : starEach (a :: es) X.env = (false, eval a X.env) :: starEach es X.env := by rfl) (h2 : (backTo pos (starEach es X.env)).any (·.1) = false := by rfl) :
    DE X B (.Call (.Name "sorted" p) (a :: es) [] pos) (eB wSortI tas) := d_callB cr_sortedI wSortI_mo (hK ▸ sv_sortI) hg hm (by decide +kernel) ha (h1 := h1) (h2 := h2)
/-! ### list(range(..)) -/
def rgListW (i j : Int) (q : List D → Prop) : Prop := RgOk i j ∧ (j - i).toNat ≤ sizeLine ∧ q (rangeD i (j - i).toNat)
def eLstRg1 (ta : ET) : ET := fun ρ p => ta ρ fun o ρ1 => wI o fun j => rgListW 0 j fun ds => p (.v (.list ds)) ρ1
def eLstRg2 (ta tb : ET) : ET := fun ρ p => ta ρ fun o ρ1 => tb ρ1 fun o' ρ2 => wI o fun i => wI o' fun j => rgListW i j fun ds => p (.v (.list ds)) ρ2
def oLstRg2 (ta tb : ET) : OT := fun ρ p => ta ρ fun o ρ1 => tb ρ1 fun o' ρ2 => wI o fun i => wI o' fun j => rgListW i j fun ds => p (.lst ds) ρ2
theorem ra_rg {K : PySem.W.Frag} {S : List Addr} {H : Hp} (i j : Int) : RA K S H (rgV i j) (rangeD i (j - i).toNat) := by
  unfold rgV rangeD
  generalize (j - i).toNat = n
  induction n with
  | zero => exact .nil
  | succ n ih => rw [List.range_succ, List.map_append, List.map_append]; exact ih.append (.one (.int _))
theorem rangeD_length (i : Int) (n : Nat) : (rangeD i n).length = n := by unfold rangeD; simp
theorem d_listRg1 (hc : X.calm = true) (hg : Gl X "list") (hm : X.mg "list" = none) (hg2 : Gl X "range") (hm2 : X.mg "range" = none) (ha : DE X B a ta) (n1 : starEach [a] X.env = (false, eval a X.env) :: starEach [] X.env := by rfl)
    (n2 : starEach [.Call (.Name "range" p2) [a] [] pos2] X.env = (false, eval (.Call (.Name "range" p2) [a] [] pos2) X.env) :: starEach [] X.env := by rfl) :
    DE X B (.Call (.Name "list" p) [.Call (.Name "range" p2) [a] [] pos2] [] pos) (eLstRg1 ta) :=
  ⟨peOf (pe_listRg hc hg hm (prg_1 hg2 hm2 ha.pe n1) n2) fun σ H Q ⟨S, ρ, g, q⟩ => ⟨S, ρ, g, ha.mo _ _ _ (fun o ρ1 q x S1 H1 k1 g1 h1 => by
    obtain ⟨j, rfl, q⟩ := wI_inv q
    cases (show R B.K S1 H1 x (.int j) from h1)
    refine ⟨j, rfl, q.1, fun p hp => q.2.2 _ S1 _ (k1.trans (Kp.same (same_new hp))) (g1.same (same_new hp)) ?_⟩
    exact R.lst (.inl ⟨notS g1.trk hp, .inl upd_same⟩) (ra_rg 0 j) (by rw [rangeD_length]; exact q.2.1)) q⟩, fun ρ p p' h q => ha.mo _ _ _ (fun o ρ1 q => wI_mono (fun j q => ⟨q.1, q.2.1, h _ _ q.2.2⟩) q) q⟩
theorem d_listRg2 (hc : X.calm = true) (hg : Gl X "list") (hm : X.mg "list" = none) (hg2 : Gl X "range") (hm2 : X.mg "range" = none) (ha : DE X B a ta) (hb : DE X B b tb) (n1 : starEach [a, b] X.env = (false, eval a X.env) :: starEach [b] X.env := by rfl) (n1' : starEach [b] X.env = (false, eval b X.env) :: starEach [] X.env := by rfl)
    (hp : (backTo pos2 (starEach [b] X.env)).any (·.1) = false := by rfl) (n2 : starEach [.Call (.Name "range" p2) [a, b] [] pos2] X.env = (false, eval (.Call (.Name "range" p2) [a, b] [] pos2) X.env) :: starEach [] X.env := by rfl) :
    DE X B (.Call (.Name "list" p) [.Call (.Name "range" p2) [a, b] [] pos2] [] pos) (eLstRg2 ta tb) :=
  ⟨peOf (pe_listRg hc hg hm (prg_2 hg2 hm2 ha.pe hb.pe n1 n1' hp) n2) fun σ H Q ⟨S, ρ, g, q⟩ => ⟨S, ρ, g, ha.mo _ _ _ (fun o ρ1 q x S1 H1 k1 g1 h1 => ⟨S1, ρ1, g1, hb.mo _ _ _ (fun o' ρ2 q y S2 H2 k2 g2 h2 => by
    obtain ⟨i, e1, q⟩ := wI_inv q
    obtain ⟨j, e2, q⟩ := wI_inv q
    have h1' := h1.kp k2
    rw [e1] at h1'; rw [e2] at h2
    cases (show R B.K S2 H2 x (.int i) from h1')
    cases (show R B.K S2 H2 y (.int j) from h2)
    refine ⟨i, j, rfl, rfl, q.1, fun p hp => q.2.2 _ S2 _ ((k1.trans k2).trans (Kp.same (same_new hp))) (g2.same (same_new hp)) ?_⟩
    exact R.lst (.inl ⟨notS g2.trk hp, .inl upd_same⟩) (ra_rg i j) (by rw [rangeD_length]; exact q.2.1)) q⟩) q⟩, fun ρ p p' h q => ha.mo _ _ _ (fun o ρ1 q => hb.mo _ _ _ (fun o' ρ2 q => wI_mono (fun i q => wI_mono (fun j q => ⟨q.1, q.2.1, h _ _ q.2.2⟩) q) q) q) q⟩
/-! ### a list of one's own: list(x) -/
def oLstOf (ta : ET) : OT := fun ρ p => ta ρ fun o ρ1 => wD (o.get ρ1) fun d => match d with
  | .list ds => p (.lst ds) ρ1
  | .tuple ds => p (.lst ds) ρ1
  | _ => False
theorem do_lstOf (hK : B.K = X.K) (hg : Gl X "list") (hm : X.mg "list" = none) (ha : DE X B a ta) (h1 : starEach (a :: []) X.env = (false, eval a X.env) :: starEach [] X.env := by rfl) (h2 : (backTo pos (starEach [] X.env)).any (·.1) = false := by rfl) :
    DO X B (.Call (.Name "list" p) [a] [] pos) (oLstOf ta) :=
  ⟨peOf (pe_callTy call_list_of hg hm (by decide +kernel) (pa_cons ha.pe pa_nil h1) (by decide) (by decide) h1 h2) fun σ H Q ⟨S, ρ, g, q⟩ => ⟨S, ρ, g, ha.mo _ _ _ (fun o ρ1 q x S1 H1 k1 g1 h1 => by
    obtain ⟨d, ed, q⟩ := wD_inv q
    have rb := h1.get g1 ed
    have main : ∀ (ys : List V) (ds : List D), RA B.K S1 H1 ys ds → ds.length ≤ sizeLine → (fun o ρ' => ∀ x S1 H' fp ct, Kp S H S1 H' → SR { B with fr := pinsOf fp ct ++ B.fr } S1 σ H' ρ' → OwnP B.K S1 H' x o fp → (∀ a ∈ fp, B.H0 a = none) → (∀ p ∈ B.fr, p.1 ∉ fp) → Q x H') (.lst ds) ρ1 → ∀ l, H1 l = none → Q (.ref l) (upd H1 l (.lst ys)) := fun ys ds ra hl q l hl0 => by
      have n : ∀ a ∈ [l], H1 a = none := fun a ha => by rw [List.mem_singleton.mp ha]; exact hl0
      refine q _ ([l] ++ S1) _ [l] (fun _ => .lst ys) (k1.trans (kp_newL (same_new hl0) n)) (g1.pins (same_new hl0) n fun a ha => by rw [List.mem_singleton.mp ha]; exact upd_same) ⟨rfl, hl, ys, upd_same, ra.kp (kp_newL (same_new hl0) n)⟩ (fun a ha => g1.fresh0 (n a ha)) fun p' hp' m => ?_
      have := (g1.pin p' hp').1
      rw [n _ m] at this; cases this
    split at q
    · cases rb with
      | lst hx rx lx => rw [← hK]; exact ⟨_, _, rfl, .inl hx.sq, main _ _ rx lx q⟩
    · cases rb with
      | tup hx rx lx => rw [← hK]; exact ⟨_, _, rfl, .inr (tq hx), main _ _ rx lx q⟩
    · exact q.elim) q⟩, fun ρ p p' i q => ha.mo _ _ _ (fun o ρ1 q => wD_mono (fun d q => by
    split at q
    · exact i _ _ q
    · exact i _ _ q
    · exact q) q) q⟩
end
end DL

/-! DL21: x.index(y) of lists and tuples of flat items. -/
namespace DL
open PySem PySem.Spec PyProof.Rows L2
section
variable {X : Cx}
def rTupIdx (K : PySem.W.Frag) : V → List V → Hp → VK → Prop := fun x xs H Q => ∃ (p : Addr) (ys : List V) (z : V) (j : Nat) (w : V), x = .ref p ∧ xs = [z] ∧ SqT K H p ys ∧ flatV z = true ∧ ys.all flatV = true ∧ ys[j]? = some w ∧ eqV w z = true ∧
  (∀ (m : Nat) (w' : V), m < j → ys[m]? = some w' → eqV w' z = false) ∧ Q (.int (j : Nat)) H
theorem mt_tupIdx : MtR X "tuple.index" (rTupIdx X.K) := by
  intro pins s σ H x xs v us Q I rx rs h
  obtain ⟨p, ys, z, j, w, rfl, rfl, hq, fz, fys, hy, hit, hno, q⟩ := h
  cases rx
  obtain ⟨u, rfl, ru⟩ := vals1 rs
  obtain ⟨its, r, pl, hz⟩ := I.tuple hq
  obtain ⟨⟨cls, dd, dt, sl⟩, ho, hc, n, hd⟩ := pl
  simp only at hc hd
  subst hc
  subst hd
  have hl : its.toArray.size = ys.length := by rw [List.size_toArray, ← r.length]
  have hj : j < its.toArray.size := by rw [hl]; exact (List.getElem?_eq_some_iff.mp hy).1
  have fl : ∀ (m : Nat) (w' : V), ys[m]? = some w' → flatV w' = true := fun m w' e => List.all_eq_true.mp fys w' (List.mem_of_getElem? e)
  have at' : ∀ (m : Nat) (hm : m < its.toArray.size), ∃ y, ys[m]? = some y ∧ RelV y its.toArray[m] := fun m hm => by
    have hm' : m < ys.length := by rw [← hl]; exact hm
    obtain ⟨u', hu', ru'⟩ := r.get (i := m) (x := ys[m]) (List.getElem?_eq_getElem hm')
    refine ⟨ys[m], List.getElem?_eq_getElem hm', ?_⟩
    have e := (List.getElem?_eq_some_iff.mp hu').2
    have e2 : its.toArray[m] = u' := by rw [← e]; simp
    rw [e2]; exact ru'
  refine call_meets PySem.F.slot_tuple_index ⟨_, ho, rfl⟩ PySem.F.entry_tuple_index (PySem.F.args_tuple_index_2 _ _) (TI.tuple_indexAt p its.toArray n dd sl u (eqU z) j hj ?_ ?_)
    ⟨ho, fun w' hw => mem_eqAt (x := z) ru fz r fys w' (by simpa using hw), ⟨.int (j : Nat), H, I.tok _, ⟨_, rfl⟩, q⟩⟩
  · obtain ⟨y, h1, h2⟩ := at' j hj
    rw [hy] at h1; cases h1
    rw [eqU_of h2 (fl j _ hy)]; exact hit
  · intro m hm hmj
    obtain ⟨y, h1, h2⟩ := at' m hm
    rw [eqU_of h2 (fl m _ h1)]; exact hno m y hmj h1
end
/-! ### o.index(e), o a list or a tuple of flat items -/
section
variable {X : Cx} {o e : Expr} {to te : TE} {apos cpos : Pos}
theorem tup_plain {pins : List (Addr × Obj)} {σ : L2.St} {H : Hp} {s : Shared} {a : Addr} {xs : List V} (I : Inv X pins σ H s) (h : RdT H a xs ∨ KT' X.K a xs) :
    s.TypeIs (.ref a) "tuple" ∧ ∀ b, Value.ref a = .ref b → ∃ ob, s.heap.get? b = some ob ∧ ob.dict = none := by
  rcases h with ⟨ob, e, hd⟩ | ⟨ob, its, n, e, hc, _, _, _, hd⟩
  · obtain ⟨q1, q2⟩ := I.hok _ _ e
    obtain ⟨_, its, r, p⟩ := q2
    exact ⟨IsTup.typeIs p, fun b z => by cases z; exact ⟨ob, q1, hd⟩⟩
  · have q := I.kIn a ob e
    exact ⟨⟨ob, q, hc⟩, fun b z => by cases z; exact ⟨ob, q, hd⟩⟩
def tIdx (K : PySem.W.Frag) (to te : TE) : TE := fun σ H Q => to σ H fun x H1 => ((∃ a xs, x = .ref a ∧ SqL K H1 a xs) ∧ te σ H1 fun y H2 => rIndex K x [y] H2 Q) ∨ ((∃ a xs, x = .ref a ∧ (RdT H1 a xs ∨ KT' K a xs)) ∧ te σ H1 fun y H2 => rTupIdx K x [y] H2 Q)
theorem pe_idx (ho : PE X o to) (he : PE X e te) (hbase : attributeBase o "index" X.env (eval o X.env) = eval o X.env := by rfl)
    (hfew : ((backTo cpos (starEach (e :: []) X.env)).all (fun x => !x.1) && (backToKw cpos (keywordEach [] X.env)).all (fun x => x.1.isSome)
      && decide ((e :: []).length + ([] : List Keyword).length + (if ([] : List Keyword).isEmpty then 0 else 1) < 30)) = true := by rfl)
    (hline : (apos.endLine == cpos.line) = true := by rfl) (hs : starEach (e :: []) X.env = (false, eval e X.env) :: starEach [] X.env := by rfl) (hplain : (backTo cpos (starEach [] X.env)).any (·.1) = false := by rfl) :
    PE X (.Call (.Attribute o "index" apos) (e :: []) [] cpos) (tIdx X.K to te) := by
  refine ⟨fun pins s σ H Q I h => wpAny_Call_method_late hbase hfew hline rfl (thn (ho.run pins s σ H _ I h) fun v s1 hv => ?_)⟩
  obtain ⟨x, H1, I1, r1, q1⟩ := hv
  rcases q1 with ⟨⟨a, xs, ex, hl⟩, q1⟩ | ⟨⟨a, xs, ex, ht⟩, q1⟩
  · obtain ⟨h1, h2⟩ := tyV_is (T := "list") I1 r1 (by rw [ex]; exact .inl ⟨rfl, xs, hl⟩)
    refine ⟨"list", _, PySem.F.plainAttrs_list, PySem.F.slot_list_index, PySem.F.type_list_index, h1, h2, ?_⟩
    have hA := (pa_cons he pa_nil hs).run cpos pins s1 σ H1 (fun ys H2 => rIndex X.K x ys H2 Q) I1 q1
    rw [hs] at hA ⊢
    refine Calls.callWith_builtin (by show (false || (backTo cpos (starEach [] X.env)).any (·.1)) = false; rw [hplain] <;> rfl) (Calls.evalArgs_plain ?_)
    exact thn hA fun us s2 ⟨vs, H2, I2, r2, q2⟩ => mt_index pins s2 σ H2 x vs v us Q I2 r1 r2 q2
  · subst ex
    cases r1
    obtain ⟨h1, h2⟩ := tup_plain I1 ht
    refine ⟨"tuple", _, PySem.F.plainAttrs_tuple, PySem.F.slot_tuple_index, PySem.F.type_tuple_index, h1, h2, ?_⟩
    have hA := (pa_cons he pa_nil hs).run cpos pins s1 σ H1 (fun ys H2 => rTupIdx X.K (.ref a) ys H2 Q) I1 q1
    rw [hs] at hA ⊢
    refine Calls.callWith_builtin (by show (false || (backTo cpos (starEach [] X.env)).any (·.1)) = false; rw [hplain] <;> rfl) (Calls.evalArgs_plain ?_)
    exact thn hA fun us s2 ⟨vs, H2, I2, r2, q2⟩ => mt_tupIdx pins s2 σ H2 (.ref a) vs (.ref a) us Q I2 rfl r2 q2
end
/-- the first place of x -/
def wFirst (ds : List D) (x : D) (q : D → Prop) : Prop := (flatD x = true ∧ ds.all flatD = true) ∧ ∃ (j : Nat) (d : D), ds[j]? = some d ∧ PyData.eqv d x = true ∧ (∀ (m : Nat) (d' : D), m < j → ds[m]? = some d' → PyData.eqv d' x = false) ∧ q (.int (j : Nat))
theorem wFirst_mono {ds : List D} {x : D} {q q' : D → Prop} (i : ∀ d, q d → q' d) (h : wFirst ds x q) : wFirst ds x q' := ⟨h.1, let ⟨j, d, a, b, c, e⟩ := h.2; ⟨j, d, a, b, c, i _ e⟩⟩
def eIdx (ta tb : ET) : ET := fun ρ p => ta ρ fun o ρ1 => match o with
  | .v (.list ds) => tb ρ1 fun o' ρ2 => wD (o'.get ρ2) fun x => wFirst ds x fun z => p (.v z) ρ2
  | .v (.tuple ds) => tb ρ1 fun o' ρ2 => wD (o'.get ρ2) fun x => wFirst ds x fun z => p (.v z) ρ2
  | _ => False
theorem first_at {K : PySem.W.Frag} {S : List Addr} {H : Hp} {xs : List V} {ds : List D} {y : V} {x : D} {q : D → Prop} (ra : RA K S H xs ds) (ry : RB K S H y x) (h : wFirst ds x q) :
    flatV y = true ∧ xs.all flatV = true ∧ ∃ (j : Nat) (w : V), xs[j]? = some w ∧ eqV w y = true ∧ (∀ (m : Nat) (w' : V), m < j → xs[m]? = some w' → eqV w' y = false) ∧ q (.int (j : Nat)) := by
  obtain ⟨⟨f1, f2⟩, j, d, e1, e2, e3, q⟩ := h
  obtain ⟨g1, _⟩ := RA.flat_any ry f1 ra f2
  have fl : ∀ (m : Nat) (d' : D), ds[m]? = some d' → flatD d' = true := fun m d' e => List.all_eq_true.mp f2 d' (List.mem_of_getElem? e)
  obtain ⟨w, e4, r4⟩ := ra.get e1
  refine ⟨ry.flat f1, g1, j, w, e4, by rw [flat_eqv r4 ry (fl j d e1) f1]; exact e2, fun m w' hm e => ?_, q⟩
  obtain ⟨d', e5, r5⟩ := ra.getV e
  rw [flat_eqv r5 ry (fl m d' e5) f1]
  exact e3 m d' hm e5
theorem d_idxOf {X : Cx} {B : BI} {o e : Expr} {ta tb : ET} {apos cpos : Pos} (hK : B.K = X.K) (ho : DE X B o ta) (he : DE X B e tb) (hbase : attributeBase o "index" X.env (eval o X.env) = eval o X.env := by rfl)
    (hfew : ((backTo cpos (starEach (e :: []) X.env)).all (fun x => !x.1) && (backToKw cpos (keywordEach [] X.env)).all (fun x => x.1.isSome)
      && decide ((e :: []).length + ([] : List Keyword).length + (if ([] : List Keyword).isEmpty then 0 else 1) < 30)) = true := by rfl)
    (hline : (apos.endLine == cpos.line) = true := by rfl) (hs : starEach (e :: []) X.env = (false, eval e X.env) :: starEach [] X.env := by rfl) (hplain : (backTo cpos (starEach [] X.env)).any (·.1) = false := by rfl) :
    DE X B (.Call (.Attribute o "index" apos) (e :: []) [] cpos) (eIdx ta tb) :=
  ⟨peOf (pe_idx ho.pe he.pe hbase hfew hline hs hplain) fun σ H Q ⟨S, ρ, g, q⟩ => ⟨S, ρ, g, ho.mo _ _ _ (fun o1 ρ1 q x S1 H1 k1 g1 h1 => by
    split at q
    · rename_i ds
      cases (show R B.K S1 H1 x (.list ds) from h1) with
      | lst hx rx lx =>
        rw [← hK]
        refine .inl ⟨⟨_, _, rfl, LX.sq (hx.imp (·.2) id)⟩, S1, ρ1, g1, he.mo _ _ _ (fun o2 ρ2 q y S2 H2 k2 g2 h2 => ?_) q⟩
        obtain ⟨d, ed, q⟩ := wD_inv q
        obtain ⟨f1, f2, j, w, e1, e2, e3, q⟩ := first_at (rx.kp k2) (h2.get g2 ed) q
        exact ⟨_, _, y, j, w, rfl, rfl, LX.sq (hx.imp (fun h => (k2.rd h.1 h.2).2) id), f1, f2, e1, e2, e3, q _ S2 H2 (k1.trans k2) g2 (.int _)⟩
    · rename_i ds
      cases (show R B.K S1 H1 x (.tuple ds) from h1) with
      | tup hx rx lx =>
        rw [← hK]
        refine .inr ⟨⟨_, _, rfl, hx.imp (·.2) id⟩, S1, ρ1, g1, he.mo _ _ _ (fun o2 ρ2 q y S2 H2 k2 g2 h2 => ?_) q⟩
        obtain ⟨d, ed, q⟩ := wD_inv q
        obtain ⟨f1, f2, j, w, e1, e2, e3, q⟩ := first_at (rx.kp k2) (h2.get g2 ed) q
        exact ⟨_, _, y, j, w, rfl, rfl, hx.imp (fun h => (k2.rdT h.1 h.2).2.rd) KT'.t, f1, f2, e1, e2, e3, q _ S2 H2 (k1.trans k2) g2 (.int _)⟩
    · exact q.elim) q⟩, fun ρ p p' h q => ho.mo _ _ _ (fun o1 ρ1 q => by
    split at q
    · exact he.mo _ _ _ (fun o2 ρ2 q => wD_mono (fun d q => wFirst_mono (fun z q => h _ _ q) q) q) q
    · exact he.mo _ _ _ (fun o2 ρ2 q => wD_mono (fun d q => wFirst_mono (fun z q => h _ _ q) q) q) q
    · exact q) q⟩
end DL

/-! DL22: dicts as data: dict(pairs), d[k]. -/
namespace DL
open PySem PySem.Spec PyProof.Rows L2
def putD (kds : List (Key × D)) (k : Key) (d : D) : List (Key × D) :=
  if (kds.any fun kv => decide (kv.1 = k)) = true then kds.map (fun kv => if kv.1 = k then (kv.1, d) else kv) else kds ++ [(k, d)]
def mergeD (kds more : List (Key × D)) : List (Key × D) := more.foldl (fun acc kv => putD acc kv.1 kv.2) kds
def valD (kds : List (Key × D)) (k : Key) : Option D := (kds.find? fun kv => decide (kv.1 = k)).map (·.2)
def dictD (kds : List (Key × D)) : D := .dict (kds.map fun q => (kD q.1, q.2))
inductive KDs (K : PySem.W.Frag) (S : List Addr) (H : Hp) : List (Key × V) → List (Key × D) → Prop
  | nil : KDs K S H [] []
  | cons {k : Key} {v : V} {d : D} {vs : List (Key × V)} {ds : List (Key × D)} : R K S H v d → KDs K S H vs ds → KDs K S H ((k, v) :: vs) ((k, d) :: ds)
section
variable {K : PySem.W.Frag} {S : List Addr} {H : Hp}
theorem KDs.rk : ∀ {vs : List (Key × V)} {ds : List (Key × D)}, KDs K S H vs ds → RK K S H vs (ds.map fun q => (kD q.1, q.2))
  | _, _, .nil => .nil
  | _, _, .cons r t => .cons r (KDs.rk t)
theorem KDs.of : ∀ {vs : List (Key × V)} {ds : List (Key × D)}, RK K S H vs (ds.map fun q => (kD q.1, q.2)) → KDs K S H vs ds
  | [], [], _ => .nil
  | (k, v) :: vs, (k', d) :: ds, h => by
    have h : RK K S H ((k, v) :: vs) ((kD k', d) :: ds.map fun q => (kD q.1, q.2)) := h
    generalize e : kD k' = kk at h
    cases h with
    | cons r t =>
      have := kD_inj e
      subst this
      exact .cons r (KDs.of t)
  | [], _ :: _, h => by cases h
  | _ :: _, [], h => by cases h
theorem KDs.any {k : Key} : ∀ {vs : List (Key × V)} {ds : List (Key × D)}, KDs K S H vs ds → (vs.any fun kv => decide (kv.1 = k)) = (ds.any fun kv => decide (kv.1 = k))
  | _, _, .nil => rfl
  | _, _, .cons r t => by rw [List.any_cons, List.any_cons, KDs.any t]
theorem KDs.app {k : Key} {v : V} {d : D} (r : R K S H v d) : ∀ {vs : List (Key × V)} {ds : List (Key × D)}, KDs K S H vs ds → KDs K S H (vs ++ [(k, v)]) (ds ++ [(k, d)])
  | _, _, .nil => .cons r .nil
  | _, _, .cons q t => .cons q (KDs.app r t)
theorem KDs.over {k : Key} {v : V} {d : D} (r : R K S H v d) : ∀ {vs : List (Key × V)} {ds : List (Key × D)}, KDs K S H vs ds → KDs K S H (vs.map fun kv => if kv.1 = k then (kv.1, v) else kv) (ds.map fun kv => if kv.1 = k then (kv.1, d) else kv)
  | _, _, .nil => .nil
  | _, _, .cons (k := k') q t => by
    rw [List.map_cons, List.map_cons]
    by_cases c : k' = k
    · rw [if_pos c, if_pos c]; exact .cons r (KDs.over r t)
    · rw [if_neg c, if_neg c]; exact .cons q (KDs.over r t)
theorem KDs.put {k : Key} {v : V} {d : D} (r : R K S H v d) {vs : List (Key × V)} {ds : List (Key × D)} (h : KDs K S H vs ds) : KDs K S H (putK vs k v) (putD ds k d) := by
  unfold putK putD
  rw [h.any]
  split
  · exact h.over r
  · exact h.app r
theorem KDs.merge {ms : List (Key × V)} {es : List (Key × D)} (h1 : KDs K S H ms es) : ∀ {vs : List (Key × V)} {ds : List (Key × D)}, KDs K S H vs ds → KDs K S H (mergeK vs ms) (mergeD ds es) := by
  induction h1 with
  | nil => exact fun h => h
  | cons r t ih => intro vs ds h; exact ih (h.put r)
theorem KDs.val {k : Key} {d : D} : ∀ {vs : List (Key × V)} {ds : List (Key × D)}, KDs K S H vs ds → valD ds k = some d → ∃ v, valV vs k = some v ∧ R K S H v d
  | _, _, .nil, h => by cases h
  | _, _, .cons (k := k') r t, h => by
    unfold valD at h
    rw [List.find?_cons] at h
    by_cases c : k' = k
    · subst c
      simp at h
      subst h
      exact ⟨_, valV_pos rfl, r⟩
    · rw [show decide (k' = k) = false from decide_eq_false c] at h
      obtain ⟨v, h1, h2⟩ := KDs.val (k := k) (d := d) t h
      exact ⟨v, by rw [valV_neg c]; exact h1, h2⟩
/-- the pairs of a list -/
def pairD (q : Key × D) : D := .tuple [kD q.1, q.2]
theorem kd_v {v : V} {k : Key} (r : R K S H v (kD k)) : v = kV k := by
  cases k with
  | inl i => cases r; rfl
  | inr i => cases r; rfl
theorem pairs_at : ∀ {xs : List V} {kds : List (Key × D)}, RA K S H xs (kds.map pairD) → ∃ (ps : List Addr) (kvs : List (Key × V)), xs = ps.map V.ref ∧ Paired (fun p kv => SqT K H p [kV kv.1, kv.2]) ps kvs ∧ KDs K S H kvs kds
  | [], [], _ => ⟨[], [], rfl, .nil, .nil⟩
  | x :: xs, (k, d) :: kds, h => by
    have h : RA K S H (x :: xs) (pairD (k, d) :: kds.map pairD) := h
    cases h with
    | cons r t =>
      obtain ⟨ps, kvs, e, p, q⟩ := pairs_at t
      unfold pairD at r
      cases r with
      | @tup a ys _ hx rx lx =>
        cases rx with
        | cons r1 t1 =>
          cases t1 with
          | cons r2 t2 =>
            cases t2
            rename_i v1 v2
            have e1 := kd_v r1
            subst e1
            exact ⟨a :: ps, (k, v2) :: kvs, by rw [e]; rfl, .cons (tq hx) p, .cons r2 q⟩
  | [], _ :: _, h => by cases h
  | _ :: _, [], h => by cases h
def wDictP : WA := fun ds q => ∃ kds : List (Key × D), ds = [.list (kds.map pairD)] ∧ q (dictD (mergeD [] kds))
theorem wDictP_mo : MoWA wDictP := fun d p p' h ⟨k, e, q⟩ => ⟨k, e, h _ q⟩
theorem sv_dictP : SvA K (fun xs H Q => ∃ (a : Addr) (ps : List Addr) (kvs : List (Key × V)), xs = [.ref a] ∧ SqL K H a (ps.map V.ref) ∧ Paired (fun p kv => SqT K H p [kV kv.1, kv.2]) ps kvs ∧ ∀ p, H p = none → Q (.ref p) (upd H p (.dK (mergeK [] kvs)))) wDictP := fun S H xs ds Q tr r ⟨kds, e, q⟩ => by
  subst e
  obtain ⟨x, rfl, rb⟩ := r.one
  cases rb with
  | lst hx rx lx =>
    obtain ⟨ps, kvs, e1, p1, kd⟩ := pairs_at rx
    subst e1
    exact ⟨_, ps, kvs, rfl, hx.sq, p1, fun p hp => q _ _ (same_new hp) (.dik (notS tr hp) (.inl upd_same) ((KDs.merge kd .nil).rk.kp (Kp.same (same_new hp))))⟩
end
section
variable {X : Cx} {B : BI} {o i e : Expr} {es : List Expr} {ta tb : ET} {tas : ETA} {p pos : Pos}
theorem d_dictP (hK : B.K = X.K) (hc : X.calm = true) (hg : Gl X "dict") (hm : X.mg "dict" = none) (ha : DA X B (e :: es) tas) (h1 : starEach (e :: es) X.env = (false, eval e X.env) :: starEach es X.env := by rfl) (h2 : (backTo pos (starEach es X.env)).any (·.1) = false := by rfl) :
    DE X B (.Call (.Name "dict" p) (e :: es) [] pos) (eB wDictP tas) := d_callT (call_dictP hc) wDictP_mo (hK ▸ sv_dictP) hg hm (by decide +kernel) ha (h1 := h1) (h2 := h2)
/-- d[k], d a dict of ints and texts -/
def keyOf : D → Option Key
  | .int i => some (.inl i)
  | .str x => some (.inr x)
  | _ => none
theorem keyOf_kD {d : D} {k : Key} (h : keyOf d = some k) : d = kD k := by
  cases d <;> cases h <;> rfl
def wGetK (kds : List (Key × D)) (d : D) (q : D → Prop) : Prop := ∃ k z, keyOf d = some k ∧ valD kds k = some z ∧ q z
def eDGet (ta tb : ET) : ET := fun ρ p => ta ρ fun o ρ1 => tb ρ1 fun o' ρ2 => ∃ kds : List (Key × D), o = .v (dictD kds) ∧ wD (o'.get ρ2) fun d => wGetK kds d fun z => p (.v z) ρ2
theorem not_rt {K : PySem.W.Frag} {S : List Addr} {H : Hp} {kvs : List (List Key × V)} {kds : List (Key × D)} {k : Key} {z : D} (h : RT K S H kvs (kds.map fun q => (kD q.1, q.2))) (e : valD kds k = some z) : False := by
  cases kds with
  | nil => cases e
  | cons q r =>
    obtain ⟨k', d⟩ := q
    have h : RT K S H kvs ((kD k', d) :: r.map fun q => (kD q.1, q.2)) := h
    generalize ek : kD k' = kk at h
    cases h
    cases k' <;> cases ek
theorem u1_lt {n : Nat} (h : n + 64 < cLine) : n + 1 < cLine := by omega
theorem d_dget (hK : B.K = X.K) (hu : X.A.units + 1 < cLine) (ho : DE X B o ta) (hi : DE X B i tb) (hs : NoSl i := by exact fun _ _ => rfl) : DE X B (.Subscript o i pos) (eDGet ta tb) :=
  ⟨peOf (pe_dget hu ho.pe hi.pe hs) fun σ H Q ⟨S, ρ, g, q⟩ => ⟨S, ρ, g, ho.mo _ _ _ (fun o1 ρ1 q x S1 H1 k1 g1 h1 => ⟨S1, ρ1, g1, hi.mo _ _ _ (fun o2 ρ2 q y S2 H2 k2 g2 h2 => by
    obtain ⟨kds, eo, q⟩ := q
    obtain ⟨d, ed, k, z, ek, ev, q⟩ := wD_inv q
    have h1 := h1.kp k2
    rw [eo] at h1
    have rb := h2.get g2 ed
    rw [keyOf_kD ek] at rb
    have ey : y = kV k := by
      cases k with
      | inl i => cases rb; rfl
      | inr i => cases rb; rfl
    cases (show R B.K S2 H2 x (dictD kds) from h1) with
    | @dik a kvs _ ha e rk =>
      obtain ⟨v, e1, r1⟩ := (KDs.of rk).val ev
      exact ⟨a, v, rfl, .inl ⟨kvs, k, e, ey, e1.symm⟩, q v S2 H2 (k1.trans k2) g2 r1⟩
    | @dit a kvs _ ha e rt => exact (not_rt rt ev).elim) q⟩) q⟩, fun ρ p p' h q => ho.mo _ _ _ (fun o1 ρ1 q => hi.mo _ _ _ (fun o2 ρ2 ⟨kds, e, q⟩ => ⟨kds, e, wD_mono (fun d ⟨k, z, a, b, c⟩ => ⟨k, z, a, b, h _ _ c⟩) q⟩) q) q⟩
end
end DL

/-! DL23: what may be shown, with longer ints (below 2 ^ 200). -/
namespace DL
open PySem PySem.Spec PyProof.Rows L2
/-- data of depth c at most, of weight w at most, its ints of 100 signs at most -/
structure FitB (c w : Nat) (d : D) : Prop where
  lay : d.canLay0 = true
  dep : d.depth ≤ c
  sho : d.showable = true
  lea : d.leavesShort 100 = true
  wei : d.weight ≤ w
structure FitsB (c w : Nat) (ds : List D) : Prop where
  lay : PyData.canLayAll0 ds = true
  dep : PyData.depthAll ds ≤ c
  sho : PyData.showableAll ds = true
  lea : PyData.leavesShortAll 100 ds = true
  wei : PyData.weightAll ds ≤ w
theorem FitB.mono {c w c' w' : Nat} {d : D} (h : FitB c w d) (h1 : c ≤ c') (h2 : w ≤ w') : FitB c' w' d := ⟨h.lay, Nat.le_trans h.dep h1, h.sho, h.lea, Nat.le_trans h.wei h2⟩
theorem FitB.eqOk {c w : Nat} {d : D} (h : FitB c w d) (hc : c ≤ 64) : eqOk d := by
  show (d.canLay0 && decide (d.depth ≤ 64)) = true
  rw [h.lay, decide_eq_true (Nat.le_trans h.dep hc)]
  rfl
theorem FitB.shownOk {c w : Nat} {d : D} (h : FitB c w d) (hc : c ≤ 64) (hw : w ≤ 150000) : shownOk d := ⟨h.eqOk hc, h.sho, by
  have := PyData.shown_le 100 (by decide) d h.lea
  have e : (100 + 2) * d.weight ≤ 102 * 150000 := Nat.mul_le_mul (by omega) (Nat.le_trans h.wei hw)
  rw [sizeLine_eq]
  omega⟩
theorem FitsB.nil {c w : Nat} : FitsB c w [] := ⟨rfl, Nat.zero_le _, rfl, rfl, Nat.zero_le _⟩
theorem FitsB.cons {c w v : Nat} {d : D} {ds : List D} (h : FitB c w d) (t : FitsB c v ds) : FitsB c (w + 1 + v) (d :: ds) where
  lay := by unfold PyData.canLayAll0; rw [h.lay, t.lay]; rfl
  dep := by unfold PyData.depthAll; exact Nat.max_le.mpr ⟨h.dep, t.dep⟩
  sho := by unfold PyData.showableAll; rw [h.sho, t.sho]; rfl
  lea := by unfold PyData.leavesShortAll; rw [h.lea, t.lea]; rfl
  wei := by unfold PyData.weightAll; have := h.wei; have := t.wei; omega
theorem FitsB.mono {c w c' w' : Nat} {d : List D} (h : FitsB c w d) (h1 : c ≤ c') (h2 : w ≤ w') : FitsB c' w' d := ⟨h.lay, Nat.le_trans h.dep h1, h.sho, h.lea, Nat.le_trans h.wei h2⟩
theorem FitsB.all {c w : Nat} : ∀ {ds : List D}, (∀ d ∈ ds, FitB c w d) → FitsB c ((w + 1) * ds.length) ds
  | [], _ => FitsB.nil
  | d :: r, h => by
    have := FitsB.cons (h d List.mem_cons_self) (FitsB.all fun e he => h e (List.mem_cons_of_mem _ he))
    exact this.mono (Nat.le_refl _) (by rw [List.length_cons, Nat.mul_add, Nat.mul_one, Nat.add_comm]; exact Nat.le_refl _)
theorem FitB.list {c w : Nat} {ds : List D} (h : FitsB c w ds) : FitB (c + 1) w (.list ds) where
  lay := by unfold PyData.canLay0; exact h.lay
  dep := by unfold PyData.depth; exact Nat.succ_le_succ h.dep
  sho := by unfold PyData.showable; exact h.sho
  lea := by unfold PyData.leavesShort; exact h.lea
  wei := by unfold PyData.weight; exact h.wei
theorem FitB.tuple {c w : Nat} {ds : List D} (h : FitsB c w ds) : FitB (c + 1) w (.tuple ds) where
  lay := by unfold PyData.canLay0; exact h.lay
  dep := by unfold PyData.depth; exact Nat.succ_le_succ h.dep
  sho := by unfold PyData.showable; exact h.sho
  lea := by unfold PyData.leavesShort; exact h.lea
  wei := by unfold PyData.weight; exact h.wei
theorem FitB.int {i : Int} (h : i.natAbs < 2 ^ 200) : FitB 0 200 (.int i) where
  lay := rfl
  dep := Nat.le_refl _
  sho := by
    unfold PyData.showable
    refine decide_eq_true ?_
    by_cases h0 : i.natAbs = 0
    · rw [h0]; decide
    · exact Nat.lt_trans ((Nat.log2_lt h0).mpr h) (by decide)
  lea := by
    unfold PyData.leavesShort
    refine decide_eq_true ?_
    have e := int_text_length_le10 (k := 90) (by decide) (Nat.lt_of_lt_of_le h (by decide +kernel : 2 ^ 200 ≤ 10 ^ 90))
    show (Str.ofString (toString i)).length ≤ 100
    rw [PySem.ofString_length]
    omega
  wei := by
    unfold PyData.weight
    split
    · omega
    · rename_i n
      have h0 : i.natAbs ≠ 0 := fun z => n (by simp; omega)
      have := (Nat.log2_lt h0).mpr h
      omega
theorem FitB.bool {b : Bool} : FitB 0 0 (.bool b) := ⟨rfl, Nat.le_refl _, rfl, rfl, Nat.le_refl _⟩
theorem FitB.none : FitB 0 0 .none := ⟨rfl, Nat.le_refl _, rfl, rfl, Nat.le_refl _⟩
end DL

/-! DL24: dicts of the def's own; extend; two owned things in one assignment. -/
namespace DL
open PySem PySem.Spec PyProof.Rows L2
def oDic : OT := fun ρ p => p (.dic []) ρ
theorem do_dic {X : Cx} {B : BI} {pos : Pos} : DO X B (.Dict [] [] pos) oDic :=
  ⟨peOf pe_dnewK (fun σ H Q ⟨S, ρ, g, q⟩ p hp => by
    have n : ∀ a ∈ [p], H a = none := fun a ha => by rw [List.mem_singleton.mp ha]; exact hp
    refine q _ ([p] ++ S) _ [p] (fun _ => .dK []) (kp_newL (same_new hp) n) (g.pins (same_new hp) n fun a ha => by rw [List.mem_singleton.mp ha]; exact upd_same) ⟨rfl, [], upd_same, .nil, rfl⟩ (fun a ha => g.fresh0 (n a ha)) (fun p' hp' m => ?_)
    have := (g.pin p' hp').1
    rw [n _ m] at this
    cases this), fun ρ p p' i q => i _ _ q⟩
def wDic (ρ : Env) (i : Nat) (p : Bool → List (Key × D) → Prop) : Prop := match ρ[i]? with
  | some (.own f (.dic kvs)) => p f kvs
  | _ => False
theorem wDic_inv {ρ : Env} {i : Nat} {p : Bool → List (Key × D) → Prop} (h : wDic ρ i p) : ∃ f kvs, ρ[i]? = some (.own f (.dic kvs)) ∧ p f kvs := by
  unfold wDic at h
  split at h
  · rename_i f kvs e; exact ⟨f, kvs, e, h⟩
  · exact h.elim
theorem wDic_mono {ρ : Env} {i : Nat} {p p' : Bool → List (Key × D) → Prop} (i' : ∀ f o, p f o → p' f o) (h : wDic ρ i p) : wDic ρ i p' := by
  unfold wDic at *
  split at h
  · exact i' _ _ h
  · exact h
def isDicS (ρ : Env) (i : Nat) : Bool := match ρ[i]? with
  | some (.own _ (.dic _)) => true
  | _ => false
section
variable {K : PySem.W.Frag} {S : List Addr} {H : Hp}
theorem KDs.some {k : Key} : ∀ {vs : List (Key × V)} {ds : List (Key × D)}, KDs K S H vs ds → (valV vs k).isSome = (valD ds k).isSome
  | _, _, .nil => rfl
  | _, _, .cons (k := k') r t => by
    by_cases c : k' = k
    · subst c
      rw [valV_pos rfl]
      unfold valD
      simp
    · rw [valV_neg c, KDs.some t]
      unfold valD
      rw [List.find?_cons_of_neg (by simp [c])]
theorem KDs.keys : ∀ {vs : List (Key × V)} {ds : List (Key × D)}, KDs K S H vs ds → vs.map (·.1) = ds.map (·.1)
  | _, _, .nil => rfl
  | _, _, .cons r t => by rw [List.map_cons, List.map_cons, KDs.keys t]
theorem KDs.length {vs : List (Key × V)} {ds : List (Key × D)} (h : KDs K S H vs ds) : vs.length = ds.length := by
  have := congrArg List.length h.keys
  rwa [List.length_map, List.length_map] at this
theorem own_dic {p : Addr} {vs : List (Key × V)} {kvs : List (Key × D)} (e : H p = .some (.dK vs)) (h : KDs K S H vs kvs) : OwnP K S H (.ref p) (.dic kvs) [p] := ⟨rfl, vs, e, h.rk, h.keys⟩
theorem own_dic_inv {v : V} {kvs : List (Key × D)} {fp : List Addr} (h : OwnP K S H v (.dic kvs) fp) : ∃ p vs, v = .ref p ∧ fp = [p] ∧ H p = .some (.dK vs) ∧ KDs K S H vs kvs := by
  cases v with
  | ref p =>
    obtain ⟨rfl, vs, e, rk, _⟩ := h
    exact ⟨p, vs, rfl, rfl, e, KDs.of rk⟩
  | _ => exact h.elim
theorem KDs.kp {S' : List Addr} {H' : Hp} (k : Kp S H S' H') : ∀ {vs : List (Key × V)} {ds : List (Key × D)}, KDs K S H vs ds → KDs K S' H' vs ds
  | _, _, .nil => .nil
  | _, _, .cons r t => .cons (R.kp k r) (KDs.kp k t)
theorem dic_at {B : BI} {σ : L2.St} {ρ : Env} {i : Nat} (g : SR B S σ H ρ) (h : isDicS ρ i = true) : ∃ a kvs, σ[i]? = some (some (.ref a)) ∧ H a = .some (.dK kvs) := by
  unfold isDicS at h
  split at h
  · rename_i f kvs e
    obtain ⟨fps, h1, _⟩ := g.own
    obtain ⟨v, e1, w, _⟩ := h1 i _ _ e
    obtain ⟨p, vs, rfl, _, e2, _⟩ := own_dic_inv w
    exact ⟨p, vs, e1, e2⟩
  · cases h
theorem key_v {y : V} {d : D} {k : Key} (rb : RB K S H y d) (ek : keyOf d = .some k) : y = kV k := by
  rw [keyOf_kD ek] at rb
  cases k with
  | inl i => cases rb; rfl
  | inr i => cases rb; rfl
end
section
variable {X : Cx} {B : BI} {x : Str} {p pos apos cpos : Pos} {e f : Expr} {tk tx te : ET} {i : Nat}
def eDIn (i : Nat) (tk : ET) : ET := fun ρ p => tk ρ fun o ρ1 => wD (o.get ρ1) fun d => wDic ρ1 i fun _ kvs => ∃ k, keyOf d = some k ∧ p (.v (.bool (valD kvs k).isSome)) ρ1
def eDNotIn (i : Nat) (tk : ET) : ET := fun ρ p => tk ρ fun o ρ1 => wD (o.get ρ1) fun d => wDic ρ1 i fun _ kvs => ∃ k, keyOf d = some k ∧ p (.v (.bool (!(valD kvs k).isSome))) ρ1
theorem eDIn_mo (h : MoE tk) : MoE (eDIn i tk) := fun ρ p p' hp q => h _ _ _ (fun o ρ1 q => wD_mono (fun d q => wDic_mono (fun f kvs ⟨k, a, b⟩ => ⟨k, a, hp _ _ b⟩) q) q) q
theorem eDNotIn_mo (h : MoE tk) : MoE (eDNotIn i tk) := fun ρ p p' hp q => h _ _ _ (fun o ρ1 q => wD_mono (fun d q => wDic_mono (fun f kvs ⟨k, a, b⟩ => ⟨k, a, hp _ _ b⟩) q) q) q
theorem dIn_of (hk : DE X B e tk) {σ : L2.St} {H : Hp} {Q : VK} (h : bE B (eDIn i tk) σ H Q) : tDIn (bE B tk) (tVar i) σ H Q := by
  obtain ⟨S, ρ, g, q⟩ := h
  refine ⟨S, ρ, g, hk.mo _ _ _ (fun o ρ1 q y S1 H1 k1 g1 h1 => ?_) q⟩
  obtain ⟨d, ed, q⟩ := wD_inv q
  obtain ⟨f, kvs, eo, k, ek, q⟩ := wDic_inv q
  obtain ⟨v, fp, ev, w1, hS, up⟩ := g1.updO eo
  obtain ⟨a, vs, rfl, rfl, e1, kd⟩ := own_dic_inv w1
  refine ⟨.ref a, ev, a, valV vs k, rfl, by rw [key_v (h1.get g1 ed) ek]; exact DGet.k e1, ?_⟩
  rw [kd.some]
  exact q _ S1 H1 k1 g1 (.bl _)
theorem dNotIn_of (hk : DE X B e tk) {σ : L2.St} {H : Hp} {Q : VK} (h : bE B (eDNotIn i tk) σ H Q) : tDNotIn (bE B tk) (tVar i) σ H Q := by
  obtain ⟨S, ρ, g, q⟩ := h
  refine ⟨S, ρ, g, hk.mo _ _ _ (fun o ρ1 q y S1 H1 k1 g1 h1 => ?_) q⟩
  obtain ⟨d, ed, q⟩ := wD_inv q
  obtain ⟨f, kvs, eo, k, ek, q⟩ := wDic_inv q
  obtain ⟨v, fp, ev, w1, hS, up⟩ := g1.updO eo
  obtain ⟨a, vs, rfl, rfl, e1, kd⟩ := own_dic_inv w1
  refine ⟨.ref a, ev, a, valV vs k, rfl, by rw [key_v (h1.get g1 ed) ek]; exact DGet.k e1, ?_⟩
  rw [kd.some]
  exact q _ S1 H1 k1 g1 (.bl _)
theorem d_dIn (hu : X.A.units + 1 < cLine) (i : Nat) (hk : DE X B e tk) (hN : X.N[i]? = some x := by rfl) (hv : Vis X.env.scope x := by first | exact Or.inl rfl | exact Or.inr (Or.inl rfl) | exact Or.inr (Or.inr rfl)) (hd : (x == ("__debug__" : Str)) = false := by decide) (hcd : (x == ("__classdict__" : Str)) = false := by decide) :
    DE X B (.Compare e [.In] [.Name x p] pos) (eDIn i tk) := ⟨peOf (pe_cmp (pc_din hu hk.pe (pe_var hN hv hd hcd))) fun _ _ _ q => dIn_of hk q, eDIn_mo hk.mo⟩
theorem d_dNotIn (hu : X.A.units + 1 < cLine) (i : Nat) (hk : DE X B e tk) (hN : X.N[i]? = some x := by rfl) (hv : Vis X.env.scope x := by first | exact Or.inl rfl | exact Or.inr (Or.inl rfl) | exact Or.inr (Or.inr rfl)) (hd : (x == ("__debug__" : Str)) = false := by decide) (hcd : (x == ("__classdict__" : Str)) = false := by decide) :
    DE X B (.Compare e [.NotIn] [.Name x p] pos) (eDNotIn i tk) := ⟨peOf (pe_cmp (pc_dnotin hu hk.pe (pe_var hN hv hd hcd))) fun _ _ _ q => dNotIn_of hk q, eDNotIn_mo hk.mo⟩
theorem dt_dIn (hu : X.A.units + 1 < cLine) (i : Nat) (hk : DE X B e tk) (hN : X.N[i]? = some x := by rfl) (hv : Vis X.env.scope x := by first | exact Or.inl rfl | exact Or.inr (Or.inl rfl) | exact Or.inr (Or.inr rfl)) (hd : (x == ("__debug__" : Str)) = false := by decide) (hcd : (x == ("__classdict__" : Str)) = false := by decide) :
    DT X B (.Compare e [.In] [.Name x p] pos) (tB' (eDIn i tk)) := ⟨ptOf (pt_cmp (pc_din hu hk.pe (pe_var hN hv hd hcd))) fun _ _ _ q => dIn_of hk (tb_of (eDIn_mo hk.mo) q), tB'_mo (eDIn_mo hk.mo)⟩
theorem dt_dNotIn (hu : X.A.units + 1 < cLine) (i : Nat) (hk : DE X B e tk) (hN : X.N[i]? = some x := by rfl) (hv : Vis X.env.scope x := by first | exact Or.inl rfl | exact Or.inr (Or.inl rfl) | exact Or.inr (Or.inr rfl)) (hd : (x == ("__debug__" : Str)) = false := by decide) (hcd : (x == ("__classdict__" : Str)) = false := by decide) :
    DT X B (.Compare e [.NotIn] [.Name x p] pos) (tB' (eDNotIn i tk)) := ⟨ptOf (pt_cmp (pc_dnotin hu hk.pe (pe_var hN hv hd hcd))) fun _ _ _ q => dNotIn_of hk (tb_of (eDNotIn_mo hk.mo) q), tB'_mo (eDNotIn_mo hk.mo)⟩
/-- d.get(k, z) -/
def eDGet2 (i : Nat) (tk tx : ET) : ET := fun ρ p => isDicS ρ i = true ∧ tk ρ fun o ρ1 => tx ρ1 fun o' ρ2 => match o, o' with
  | .v d, .v z => wDic ρ2 i fun _ kvs => ∃ k, keyOf d = some k ∧ p (.v ((valD kvs k).getD z)) ρ2
  | _, _ => False
theorem d_dGet2 (hu : X.A.units + 1 < cLine) (i : Nat) (hk : DE X B e tk) (hf : DE X B f tx) (m : M2 X (.Name x p) "get" apos e f cpos) (hN : X.N[i]? = some x := by rfl) (hv : Vis X.env.scope x := by first | exact Or.inl rfl | exact Or.inr (Or.inl rfl) | exact Or.inr (Or.inr rfl)) (hd : (x == ("__debug__" : Str)) = false := by decide) (hcd : (x == ("__classdict__" : Str)) = false := by decide) :
    DE X B (.Call (.Attribute (.Name x p) "get" apos) [e, f] [] cpos) (eDGet2 i tk tx) :=
  ⟨peOf (pe_dget2 hu (pe_var hN hv hd hcd) hk.pe hf.pe m) fun σ H Q ⟨S, ρ, g, hi, q⟩ => by
    obtain ⟨a, kv0, e1, e2⟩ := dic_at g hi
    refine ⟨.ref a, e1, a, rfl, .inl ⟨_, .inl e2⟩, S, ρ, g, hk.mo _ _ _ (fun o ρ1 q y S1 H1 k1 g1 h1 => ⟨S1, ρ1, g1, hf.mo _ _ _ (fun o' ρ2 q z S2 H2 k2 g2 h2 => ?_) q⟩) q⟩
    cases o with
    | s j => exact q.elim
    | v d =>
      cases o' with
      | s j => exact q.elim
      | v d' =>
        obtain ⟨ff, kvs, eo, k, ek, q⟩ := wDic_inv q
        obtain ⟨v, fp, ev, w1, hS, up⟩ := g2.updO eo
        obtain ⟨a', vs, rfl, rfl, e3, kd⟩ := own_dic_inv w1
        rw [e1] at ev; cases ev
        refine ⟨valV vs k, by rw [key_v (R.rb (show R B.K S1 H1 y d from h1)) ek]; exact DGet.k e3, ?_⟩
        have hs := kd.some (k := k)
        cases c : valD kvs k with
        | some zd =>
          obtain ⟨zv, c2, rz⟩ := kd.val c
          rw [c2]
          rw [c] at q
          exact q zv S2 H2 (k1.trans k2) g2 rz
        | none =>
          rw [c] at hs q
          have : valV vs k = none := by cases c2 : valV vs k with
            | none => rfl
            | some _ => rw [c2] at hs; cases hs
          rw [this]
          exact q z S2 H2 (k1.trans k2) g2 h2, fun ρ p p' h q => ⟨q.1, hk.mo _ _ _ (fun o ρ1 q => hf.mo _ _ _ (fun o' ρ2 q => by
    cases o with
    | s j => exact q
    | v d =>
      cases o' with
      | s j => exact q
      | v d' => exact wDic_mono (fun f kvs ⟨k, a, b⟩ => ⟨k, a, h _ _ b⟩) q) q) q.2⟩⟩
/-- d[k] = v -/
def sDicSet (i : Nat) (tk te : ET) : STy := fun D ρ => te ρ fun o ρ1 => isDicS ρ1 i = true ∧ tk ρ1 fun o' ρ2 => match o, o' with
  | .v d, .v dk => wDic ρ2 i fun f kvs => ∃ k, keyOf dk = some k ∧ kvs.length < sizeLine ∧ D.nx (ρ2.set i (.own f (.dic (putD kvs k d))))
  | _, _ => False
theorem ds_dicSet {ki v : Expr} {tpos : Pos} (hu : X.A.units + 1 < cLine) (i : Nat) (hk : DE X B ki tk) (he : DE X B v te) (hs : swapsWith v (some (.Subscript (.Name x p) ki tpos)) pos.line X.env = pure false := by rfl)
    (hN : X.N[i]? = some x := by rfl) (hv : Vis X.env.scope x := by first | exact Or.inl rfl | exact Or.inr (Or.inl rfl) | exact Or.inr (Or.inr rfl)) (hd : (x == ("__debug__" : Str)) = false := by decide) (hcd : (x == ("__classdict__" : Str)) = false := by decide) :
    DS X B (.Assign [.Subscript (.Name x p) ki tpos] v pos) (sDicSet i tk te) :=
  ⟨psOf (ps_dput hu (pe_var hN hv hd hcd) hk.pe he.pe hs) fun D σ H ⟨S, ρ, D', g, l, q⟩ => ⟨S, ρ, g, he.mo _ _ _ (fun o ρ1 q y S1 H1 k1 g1 h1 => by
    obtain ⟨hi, q⟩ := q
    obtain ⟨a, kv0, e1, e2⟩ := dic_at g1 hi
    refine ⟨.ref a, e1, S1, ρ1, g1, hk.mo _ _ _ (fun o' ρ2 q z S2 H2 k2 g2 h2 => ?_) q⟩
    cases o with
    | s j => exact q.elim
    | v d =>
      cases o' with
      | s j => exact q.elim
      | v dk =>
        obtain ⟨ff, kvs, eo, k, ek, hl, q⟩ := wDic_inv q
        obtain ⟨v, fp, ev, w1, hS, up⟩ := g2.updO eo
        obtain ⟨a', vs, rfl, rfl, e3, kd⟩ := own_dic_inv w1
        rw [e1] at ev; cases ev
        have rd : R B.K S2 H2 y d := R.kp k2 h1
        have kk : Kp S2 H2 S2 (upd H2 a (.dK (putK vs k y))) := kp_own hS upd_off
        obtain ⟨k3, g3⟩ := up (upd H2 a (.dK (putK vs k y))) (.dic (putD kvs k d)) upd_off (own_dic upd_same ((kd.put rd).kp kk))
        refine ⟨a, _, rfl, by rw [key_v (R.rb (show R B.K S2 H2 z dk from h2)) ek]; exact DPut.k e3 (by rw [kd.length]; exact hl), ?_⟩
        exact l.nx _ S2 σ _ ((k1.trans k2).trans k3) g3 q) q⟩, fun D D' ρ l q => he.mo _ _ _ (fun o ρ1 q => ⟨q.1, hk.mo _ _ _ (fun o' ρ2 q => by
    cases o with
    | s j => exact q
    | v d =>
      cases o' with
      | s j => exact q
      | v dk => exact wDic_mono (fun f kvs ⟨k, a, b, c⟩ => ⟨k, a, b, l.nx _ c⟩) q) q.2⟩) q⟩
/-! ### methods of dicts of the def's own -/
def eMD (i : Nat) (w : WM) (ta : ETA) : ET := fun ρ p => isDicS ρ i = true ∧ ta ρ fun os ρ1 => wDs (allD os) fun ds => wOwn ρ1 i fun f o => w o ds fun d o' => p (.v d) (ρ1.set i (.own f o'))
theorem eMD_mo {i : Nat} {w : WM} {ta : ETA} (mw : MoWM w) (ma : MoA ta) : MoE (eMD i w ta) := fun ρ p p' h q => ⟨q.1, ma _ _ _ (fun os ρ1 q => wDs_mono (fun ds q => wOwn_mono (fun f o q => mw _ _ _ _ (fun d o' q => h _ _ q) q) q) q) q.2⟩
theorem methD_of {r : V → List V → Hp → VK → Prop} {w : WM} {ta : ETA} {i : Nat} (mw : MoWM w) (sv : SvM B.K r w) (hA : MoA ta) {σ : L2.St} {H : Hp} {Q : VK} (h : bE B (eMD i w ta) σ H Q) : tBM B.K "dict" r (tVar i) (bA B ta) σ H Q := by
  obtain ⟨S, ρ, g, hl, q⟩ := h
  obtain ⟨a, xs, e1, e2⟩ := dic_at g hl
  refine ⟨.ref a, e1, .inr (.inr (.inl ⟨rfl, .inl ⟨xs, e2⟩⟩)), S, ρ, g, hA _ _ _ (fun os ρ1 q vs S1 H1 k1 g1 h1 => ?_) q⟩
  obtain ⟨ds, ed, q⟩ := wDs_inv q
  obtain ⟨f, o, eo, q⟩ := wOwn_inv q
  obtain ⟨v, fp, ev, w1, hS, up⟩ := g1.updO eo
  rw [e1] at ev; cases ev
  refine sv S1 H1 a o fp vs ds Q w1 hS (h1.all ed) (mw _ _ _ _ (fun d o' q v H' hk w2 rv => ?_) q)
  obtain ⟨k2, g2⟩ := up H' o' hk w2
  exact q v S1 H' (k1.trans k2) g2 rv
/-- d.update(e), e a dict too, not empty -/
def rUpd : V → List V → Hp → VK → Prop := fun x vs H Q => ∃ a b kvs more, x = .ref a ∧ vs = [.ref b] ∧ H a = some (.dK kvs) ∧ Rd H b (.dK more) ∧ a ≠ b ∧ kvs.length + more.length ≤ sizeLine ∧ Q .non (upd H a (.dK (mergeK kvs more)))
theorem mt_upd : MtR X "dict.update" rUpd := by
  intro pins s σ H x vs v us Q I rx rv h
  obtain ⟨a, b, kvs, more, rfl, rfl, ha, hb, ne, hz, q⟩ := h
  cases rx
  obtain ⟨u, rfl, ru⟩ := rv.one
  cases ru
  obtain ⟨z1, d1, vs1, rel1, dd1⟩ := dk_of I.hok ha
  obtain ⟨z2, d2, vs2, rel2, dd2⟩ := dk_rd I.hok hb
  refine call_meetsIn PySem.F.slot_dict_update dd1.typeIs PySem.F.entry_dict_update (PySem.F.args_dict_update_2 _ _) (meets_dict_update (mixKind _ _) a b ne d2) ⟨vs1, vs2, dd1, dd2, by rw [← rel1.length, ← rel2.length]; exact hz, fun h' dm _ hs => ?_⟩
  have he : ∃ q, h'.get? a = some q := let ⟨q, _, _, hq, _⟩ := dm; ⟨q, hq⟩
  have hl := length_mergeK more kvs
  exact ⟨.non, _, d_write I (by rw [ha]; exact True.intro) hs he (dk_new (by omega) d1 (KV.merge rel2 rel1) dm), rfl, q⟩
def wUpd : WM
  | .dic kvs, [.dict dd], q => ∃ kds : List (Key × D), PyData.dict dd = dictD kds ∧ kds ≠ [] ∧ kvs.length + kds.length ≤ sizeLine ∧ q .none (.dic (mergeD kvs kds))
  | _, _, _ => False
theorem wUpd_mo : MoWM wUpd := fun o ds p p' h q => by
  unfold wUpd at *; split at q <;> first | exact ⟨q.choose, q.choose_spec.1, q.choose_spec.2.1, q.choose_spec.2.2.1, h _ _ q.choose_spec.2.2.2⟩ | exact q
theorem sv_upd {K : PySem.W.Frag} : SvM K rUpd wUpd := fun S H p o fp vs ds Q w hS ra h => by
  unfold wUpd at h
  split at h
  · rename_i kvs dd
    obtain ⟨kds, ed, ne, hz, h⟩ := h
    obtain ⟨a, us, e1, e2, e3, kd⟩ := own_dic_inv w
    cases e1
    subst e2
    cases ra with
    | @cons v _ _ _ r t =>
      cases t
      rw [ed] at r
      have r : R K S H v (.dict (kds.map fun q => (kD q.1, q.2))) := r
      cases r with
      | @dik b more _ hb e rk =>
        have km := KDs.of rk
        have k : Kp S H S (upd H p (.dK (mergeK us more))) := kp_own hS upd_off
        refine ⟨p, b, us, more, rfl, rfl, e3, e, fun z => hb (z ▸ hS p (List.mem_singleton.mpr rfl)), by rw [kd.length, km.length]; exact hz, ?_⟩
        exact h .non _ upd_off (own_dic upd_same ((KDs.merge km kd).kp k)) .non
      | @dit b more _ hb e rt =>
        cases kds with
        | nil => exact absurd rfl ne
        | cons q l =>
          obtain ⟨k', d⟩ := q
          have rt : RT K S H more ((kD k', d) :: l.map fun q => (kD q.1, q.2)) := rt
          generalize ek : kD k' = kk at rt
          cases rt
          cases k' <;> cases ek
  · exact h.elim
theorem d_upd {es : List Expr} {ta : ETA} (hK : B.K = X.K) (i : Nat) (hN : X.N[i]? = some x := by rfl) (ha : DA X B (e :: es) ta) (hv : Vis X.env.scope x := by first | exact Or.inl rfl | exact Or.inr (Or.inl rfl) | exact Or.inr (Or.inr rfl)) (hd : (x == ("__debug__" : Str)) = false := by decide) (hcd : (x == ("__classdict__" : Str)) = false := by decide)
    (hpe : ∀ t : TA, PA X (e :: es) t → PE X (.Call (.Attribute (.Name x p) "update" apos) (e :: es) [] pos) (tBM X.K "dict" rUpd (tVar i) t) := by exact fun t h => pe_bm PySem.F.plainAttrs_dict PySem.F.slot_dict_update PySem.F.type_dict_update mt_upd (pv _) h) :
    DE X B (.Call (.Attribute (.Name x p) "update" apos) (e :: es) [] pos) (eMD i wUpd ta) := ⟨peOf (hpe _ ha.pa) fun _ _ _ q => by rw [← hK]; exact methD_of wUpd_mo sv_upd ha.mo q, eMD_mo wUpd_mo ha.mo⟩
/-! ### x.extend(e) -/
def rExtX (K : PySem.W.Frag) : V → List V → Hp → VK → Prop := fun x vs H Q => ∃ l b xs zs, x = .ref l ∧ vs = [.ref b] ∧ H l = some (.lst xs) ∧ LX K H b zs ∧ xs.length + zs.length ≤ sizeLine ∧ Q .non (upd H l (.lst (xs ++ zs)))
theorem mt_extX : MtR X "list.extend" (rExtX X.K) := by
  intro pins s σ H x vs v us Q I rx rv h
  obtain ⟨l, b, xs, zs, rfl, rfl, hH, hB, hz, q⟩ := h
  cases rx
  obtain ⟨u, rfl, ru⟩ := rv.one
  cases ru
  obtain ⟨z, its, n, r, hl, e⟩ := I.lstM hH
  obtain ⟨_, its2, n2, r2, e2⟩ := lx_inv I hB
  have hl2 := r2.length
  have fit : its.toArray.size + its2.toArray.size ≤ sizeLine := by rw [List.size_toArray, List.size_toArray]; omega
  have short : ¬ (!its.toArray.isEmpty && Builtin.List.listTooLong (its.toArray.size + its2.toArray.size)) = true := by
    rw [notLongL fit, Bool.and_false]
    exact Bool.false_ne_true
  refine call_meets F.slot_list_extend ⟨_, e, rfl⟩ F.entry_list_extend (F.args_list_extend_2 _ _) (AutoSeq1.list_extend_list_list_0 l its.toArray n b its2.toArray n2 short (by rw [List.size_toArray]; omega) (by omega)) ⟨e, e2, ?_⟩
  exact ⟨.non, _, I.lset (its' := its ++ its2) hH e (by simp) (r.append r2) (by rw [List.length_append]; omega), rfl, q⟩
def wExtend : WM
  | .lst xs, [.list ds], q => xs.length + ds.length ≤ sizeLine ∧ q .none (.lst (xs ++ ds))
  | _, _, _ => False
theorem wExtend_mo : MoWM wExtend := fun o ds p p' h q => by
  unfold wExtend at *; split at q <;> first | exact ⟨q.1, h _ _ q.2⟩ | exact q
theorem sv_extend {K : PySem.W.Frag} : SvM K (rExtX K) wExtend := fun S H p o fp vs ds Q w hS ra h => by
  unfold wExtend at h
  split at h
  · rename_i xs es
    obtain ⟨rfl, hl, us, e, rx⟩ := w
    cases ra with
    | @cons v _ _ _ r t =>
      cases t
      cases r with
      | @lst b zs _ hb rb lb =>
        have k : Kp S H S (upd H p (.lst (us ++ zs))) := kp_own hS upd_off
        have l1 := rx.length
        have l2 := rb.length
        exact ⟨p, b, us, zs, rfl, rfl, e, hb.imp (·.2) id, by rw [l1, l2]; exact h.1, h.2 .non _ upd_off ⟨rfl, by rw [List.length_append]; exact h.1, _, upd_same, (rx.append rb).kp k⟩ .non⟩
  · exact h.elim
theorem d_extend {es : List Expr} {ta : ETA} (hK : B.K = X.K) (i : Nat) (hN : X.N[i]? = some x := by rfl) (ha : DA X B (e :: es) ta) (hv : Vis X.env.scope x := by first | exact Or.inl rfl | exact Or.inr (Or.inl rfl) | exact Or.inr (Or.inr rfl)) (hd : (x == ("__debug__" : Str)) = false := by decide) (hcd : (x == ("__classdict__" : Str)) = false := by decide)
    (hpe : ∀ t : TA, PA X (e :: es) t → PE X (.Call (.Attribute (.Name x p) "extend" apos) (e :: es) [] pos) (tBM X.K "list" (rExtX X.K) (tVar i) t) := by exact fun t h => pe_bm PySem.F.plainAttrs_list PySem.F.slot_list_extend PySem.F.type_list_extend mt_extX (pv _) h) :
    DE X B (.Call (.Attribute (.Name x p) "extend" apos) (e :: es) [] pos) (eM i wExtend ta) := ⟨peOf (hpe _ ha.pa) fun _ _ _ q => by rw [← hK]; exact meth_of wExtend_mo (hK ▸ sv_extend) ha.mo q, eM_mo wExtend_mo ha.mo⟩
end
/-! ### a, b = x, y, both the def's own -/
def sParOO (i j : Nat) (ta tb : OT) : STy := fun D ρ => ta ρ fun ow ρ1 => tb ρ1 fun ow' ρ2 => D.nx ((ρ2.set j (.own true ow')).set i (.own true ow))
section
variable {X : Cx} {B : BI} {a b : Expr} {ta to : OT} {i j : Nat} {x y : Str} {px py pt : Pos} {kt k2 : Nat} {pt2 pos : Pos}
theorem ds_parOO (hc : X.calm = true) (hN : X.N.Nodup) (hi : X.N[i]? = some x) (hj : X.N[j]? = some y) (hij : i ≠ j) (hx : X.env.scope.names.lookup x = some .local) (hy : X.env.scope.names.lookup y = some .local)
    (ha : DO X B a to) (hb : ∀ fr, DO X (B.pin fr) b ta) (hw : swappedStores [.Tuple [.Name x px, .Name y py] kt pt] (.Tuple [a, b] k2 pt2) X.env = pure (some [x, y]))
    (hs : swapsWithSole [.Tuple [.Name x px, .Name y py] kt pt] (.Tuple [a, b] k2 pt2) pos.line X.env = pure false := by rfl)
    (s1 : starEach (a :: [b]) X.env = (false, eval a X.env) :: starEach [b] X.env := by rfl) (s2 : starEach (b :: []) X.env = (false, eval b X.env) :: starEach [] X.env := by rfl) : DS X B (.Assign [.Tuple [.Name x px, .Name y py] kt pt] (.Tuple [a, b] k2 pt2) pos) (sParOO i j to ta) := by
  have hb' : PE X b (fun σ H Q => ∃ fr, oE (B.pin fr) ta σ H Q) := pinE fun fr => (hb fr).pe
  have mb : MoO ta := (hb []).mo
  refine ⟨psOf (ps_par hc hN hi hj hij hx hy (pa_cons ha.pe (pa_cons hb' pa_nil s2) s1) hw hs) fun D σ H ⟨S, ρ, D', g, l, q⟩ => ⟨S, ρ, g, ha.mo _ _ _ (fun ow ρ1 q v S1 H1 fp ct k1 g1 w h0 hd => ⟨pinsOf fp ct ++ B.fr, S1, ρ1, g1, mb _ _ _ (fun ow' ρ2 q u S2 H2 fp2 ct2 k2 g2 w' h0' hd' => ?_) q⟩) q⟩, fun D D' ρ l q => ha.mo _ _ _ (fun o ρ1 q => mb _ _ _ (fun o' ρ2 q => l.nx _ q) q) q⟩
  have g3 := SR.setP (B := B.pin (pinsOf fp ct ++ B.fr)) (i := j) g2 w' h0' hd'
  have w2 : OwnP B.K S2 H2 v ow fp := w.kp k2 fun a ha => by
    have e1 := (g1.pin (a, ct a) (List.mem_append_left _ (pinsOf_mem ha))).1
    have e2 := (g3.pin (a, ct a) (List.mem_append_left _ (pinsOf_mem ha))).1
    exact e2.trans e1.symm
  have g4 := SR.setP (B := B) (i := i) g3 w2 h0 hd
  have e : (σ.set j (some u)).set i (some v) = (σ.set i (some v)).set j (some u) := List.set_comm _ _ (fun e => hij e.symm)
  rw [e] at g4
  exact ⟨v, u, rfl, l.nx _ S2 _ H2 (k1.trans k2) g4 q⟩
end
end DL

set_option maxHeartbeats 1000000
/-! DL25: sorted of lists of tuples of ints, of tuples of ints; index of nested data. -/
namespace DL
open PySem PySem.Spec PyProof.Rows L2
section
variable {prog : Program} {w : World} {A : Around} {E : Value → Shared → Prop} {s : Shared}
/-- the heap behind collect -/
abbrev colH (h : Heap) (vs : List Value) : Heap := (h.push (seqObj "list" #[] 0)).update h.objs.size (Obj.mapSeq (· ++ vs.toArray))
theorem collect_tupl {l : Addr} {vs : List Value} {Q : List Value → Shared → Prop} (hl : s.heap.IsTuple l vs.toArray) (h : Q vs { s with heap := colH s.heap vs }) (hsz : vs.length ≤ sizeLine) : wpAny (model prog w) A (collect (.ref l)) Q E s := by
  obtain ⟨o, ho, hc, n, hd⟩ := id hl
  unfold collect
  refine wpAny_bind (wpAny_runValue (codeAny_builtin entry_proto_collect' ?_))
  show wpAny _ _ (do again (.builtin "list.__iadd__" ⟨[← newList [], .ref l], []⟩)) _ _ s
  refine wpAny_bind (wpAny_newList (wpAny_pure ⟨Code.quiet_builtin _ (by decide +kernel), codeAny_builtin entry_list_iadd' ?_⟩))
  show wpAny _ _ (Builtin.List.listExtendWith (.ref s.heap.objs.size) (.ref l) (.ref s.heap.objs.size)) _ _ { s with heap := s.heap.push (seqObj "list" #[] 0) }
  unfold Builtin.List.listExtendWith
  have ho' : (s.heap.push (seqObj "list" #[] 0)).get? l = some o := Heap.get?_push_of_some _ ho
  refine wpAny_bind (wpAny_typeOf (T := "tuple") ⟨o, ho', hc⟩ ?_)
  have ht : (Value.type "tuple" == Value.type "tuple") = true := by rfl
  rw [if_pos (by rw [ht]; simp)]
  refine wpAny_bind (listItems_at ho' hd (wpAny_bind (listItems_at (xs := #[]) (n := 0) (Heap.get?_push_size _ rfl) rfl ?_)))
  rw [if_neg (by simp)]
  refine wpAny_bind (listUpdate_at (xs := #[]) (n := 0) (Heap.get?_push_size _ rfl) rfl (wpAny_pure ?_) (Nat.zero_le _) (by show (#[] ++ vs.toArray).size ≤ sizeLine + 1; simp only [Array.size_append, List.size_toArray, List.length_nil]; omega))
  show wpAny (model prog w) A (do
      let o ← load s.heap.objs.size
      match o.data with
      | .seq xs _ => pure xs.toList
      | _ => unsupported "internal:collect") Q E { s with heap := colH s.heap vs }
  refine wpAny_bind (wpAny_load (get?_update_seq (Heap.get?_push_size _ rfl) _) ?_)
  show wpAny _ _ (pure ((#[] : Array Value) ++ vs.toArray).toList) Q E _
  rw [show ((#[] : Array Value) ++ vs.toArray).toList = vs by simp]
  exact wpAny_pure h
/-- sorted of what is collected so -/
theorem sorted_col {l : Addr} {vs : List Value} {ltv : Value → Value → Bool} {Q : Value → Shared → Prop} (O : SrtO.Swo ltv) (hz : vs.length ≤ sizeLine)
    (hcol : ∀ (A' : Around) (Q : List Value → Shared → Prop) (E : Value → Shared → Prop), Q vs { s with heap := colH s.heap vs } → wpAny (model prog w) A' (collect (.ref l)) Q E s)
    (hS : 2 ≤ vs.length → ∀ (h₁ : Heap) (a : Addr), h₁.get? a = some (seqObj "list" vs.toArray 0) → (∀ b o, s.heap.get? b = some o → b ≠ a ∧ h₁.get? b = some o) → SrtO.SortableO prog w A.in1.in1 { s with heap := h₁ } a vs ltv)
    (h : ∀ out : List Value, SrtO.Srtd ltv out → SrtO.Stb ltv out vs → Q (.ref (s.heap.objs.size + 1)) { s with heap := sortedAll s.heap vs out.toArray }) :
    wpAny (model prog w) A (call (.builtin "sorted") [.ref l]) Q E s := by
  refine Calls.call_function_entry kind_sorted plain_sorted entry_sorted (args_sorted1 _) ?_
  unfold Builtin.«sorted»
  refine wpAny_bind (m := checkCount "sorted" 1 1 _) (wpAny_pure (wpAny_bind (hcol _ _ _ (wpAny_bind (wpAny_newList ?_ hz)))))
  have hsz : (colH s.heap vs).objs.size = s.heap.objs.size + 1 := by rw [Heap.size_update, size_push']
  have hoL : ((colH s.heap vs).push (seqObj "list" vs.toArray 0)).get? (s.heap.objs.size + 1) = some (seqObj "list" vs.toArray 0) := by rw [← hsz]; exact Heap.get?_push_size _ rfl
  have keep : ∀ b o, s.heap.get? b = some o → b ≠ s.heap.objs.size + 1 ∧ ((colH s.heap vs).push (seqObj "list" vs.toArray 0)).get? b = some o := fun b o q => by
    have hlt : b < s.heap.objs.size := Heap.lt_size q
    refine ⟨Nat.ne_of_lt (Nat.lt_succ_of_lt hlt), Heap.get?_push_of_some _ ?_⟩
    rw [Heap.get?_update_ne _ _ _ _ (Nat.ne_of_lt hlt)]; exact Heap.get?_push_of_some _ q
  show wpAny _ _ _ _ _ { s with heap := (colH s.heap vs).push (seqObj "list" vs.toArray 0) }
  rw [hsz]
  exact wpAny_bind (wpAny_holding (wpAny_call_entry slot_list_sort ⟨_, hoL, rfl⟩ entry_list_sort (SrtO.list_sort_ord O hoL hz (fun h2 => hS h2 _ _ hoL keep) fun out hs hb => ⟨_, rfl, wpAny_pure ⟨_, rfl, h out hs hb⟩⟩) (args_list_sort _)))
/-! rows of ints -/
theorem lex_irr : ∀ a : List Int, HT.lexLt a a = false
  | [] => rfl
  | x :: r => by rw [HT.lexLt_cons, if_pos rfl]; exact lex_irr r
theorem lex_asym : ∀ {a b : List Int}, HT.lexLt a b = true → HT.lexLt b a = false
  | [], [], h => by cases h
  | [], _ :: _, _ => rfl
  | _ :: _, [], h => by cases h
  | x :: r, y :: t, h => by
    rw [HT.lexLt_cons] at h ⊢
    by_cases e : x = y
    · rw [if_pos e] at h; rw [if_pos e.symm]; exact lex_asym h
    · rw [if_neg e, decide_eq_true_eq] at h
      rw [if_neg fun z => e z.symm]
      exact decide_eq_false (by omega)
theorem lex_tr : ∀ {a b c : List Int}, HT.lexLt b a = false → HT.lexLt c b = false → HT.lexLt c a = false
  | [], b, c, _, h2 => by
    cases c with
    | nil => rfl
    | cons z t => rfl
  | x :: r, [], c, h1, _ => by cases h1
  | x :: r, y :: t, [], _, h2 => by cases h2
  | x :: r, y :: t, z :: u, h1, h2 => by
    rw [HT.lexLt_cons] at h1 h2 ⊢
    by_cases e1 : y = x
    · rw [if_pos e1] at h1
      by_cases e2 : z = y
      · rw [if_pos e2] at h2
        rw [if_pos (e2.trans e1)]; exact lex_tr h1 h2
      · rw [if_neg e2, decide_eq_false_iff_not] at h2
        rw [if_neg fun q => e2 (q.trans e1.symm)]
        exact decide_eq_false (by omega)
    · rw [if_neg e1, decide_eq_false_iff_not] at h1
      by_cases e2 : z = y
      · rw [if_neg fun q => e1 (e2.symm.trans q)]
        exact decide_eq_false (by omega)
      · rw [if_neg e2, decide_eq_false_iff_not] at h2
        by_cases e3 : z = x
        · omega
        · rw [if_neg e3]
          exact decide_eq_false (by omega)
theorem swo_rows (k : Value → List Int) : SrtO.Swo fun v u => HT.lexLt (k v) (k u) := ⟨fun _ _ h => lex_asym h, fun _ _ _ h1 h2 => lex_tr h1 h2⟩
theorem kat_rows {b fin : Bool} {us : List Value} {ns : List Int} (h1 : IntsAre us ns) : ∀ {ws : List Value} {ms : List Int} (i : Nat), IntsAre ws ms → fin = decide (us.length < ws.length) →
    PySem.W.KatLex prog w A b fin (fun r s' => s' = s ∧ r = HT.lexLt ns ms) (us.zip ws) i s := by
  induction h1 with
  | nil =>
    intro ws ms i h2 hf
    cases h2 with
    | nil => exact PySem.W.kat_nil ⟨rfl, hf⟩
    | cons q u hy => exact PySem.W.kat_nil ⟨rfl, by rw [hf]; exact decide_eq_true (by simp)⟩
  | @cons p t us ns hx ih =>
    intro ws ms i h2 hf
    cases h2 with
    | nil => exact PySem.W.kat_nil ⟨rfl, by rw [hf]; exact decide_eq_false (by simp)⟩
    | @cons q u ws ms hy =>
      show PySem.W.KatLex prog w A b fin _ ((Value.int p t, Value.int q u) :: us.zip ws) i s
      refine PySem.W.kat_cons (wpAny_eqBool_int ?_)
      by_cases e : p = q
      · subst e
        rw [beq_self_eq_true]
        refine PySem.W.kat_yes ?_
        have := ih (i + 1) hy (by rw [hf]; simp)
        rw [HT.lexLt_cons, if_pos rfl]
        exact this
      · rw [show (p == q) = false from beq_eq_false_iff_ne.mpr e]
        refine PySem.W.kat_no (TS.oneLt_ints _ ⟨rfl, ?_⟩)
        rw [HT.lexLt_cons, if_neg e]
theorem firsts_rows {h : Heap} : ∀ vs : List Value, (∀ v ∈ vs, ∃ ns, TS.TupInts h v ns ∧ ns ≠ []) → ∃ fs, PySem.W.KatTups h vs fs ∧ fs.length = vs.length ∧ ∀ f, f ∈ fs → ∃ n t, f = Value.int n t
  | [], _ => ⟨[], PySem.W.KatTups.nil, rfl, fun f hf => by simp at hf⟩
  | v :: vs, x => by
    obtain ⟨fs, k, hl, hi⟩ := firsts_rows vs fun u hu => x u (List.mem_cons_of_mem _ hu)
    obtain ⟨ns, ⟨a, xs, rfl, ⟨o, ho, hc, n, hdt⟩, i⟩, hn⟩ := x v (List.mem_cons_self ..)
    obtain ⟨xl⟩ := xs
    have i : IntsAre xl ns := i
    cases i with
    | nil => exact absurd rfl hn
    | cons y t r =>
      refine ⟨_ :: fs, PySem.W.KatTups.cons ho hc hdt (f := Value.int y t) (by simp) k, by simp [hl], fun f hf => ?_⟩
      rcases List.mem_cons.mp hf with rfl | hf
      · exact ⟨_, _, rfl⟩
      · exact hi f hf
theorem rows_sortable {a : Addr} {vs : List Value} (h0 : 0 < vs.length) (hp : ∀ v ∈ vs, ∃ ns, TS.TupInts s.heap v ns ∧ ns ≠ []) (k : Value → List Int) (hk : ∀ v ∈ vs, ∀ ns, TS.TupInts s.heap v ns → k v = ns) (ha : ∀ o, s.heap.get? a = some o → o.cls ≠ .type "tuple") :
    SrtO.SortableO prog w A s a vs fun v u => HT.lexLt (k v) (k u) := by
  intro h' keep
  have kp : ∀ b o, s.heap.get? b = some o → o.cls = .type "tuple" → h'.get? b = some o := fun b o e c => keep b o (fun z => by subst z; exact ha o e c) e
  have hp' : ∀ v ∈ vs, ∃ ns, TS.TupInts h' v ns ∧ ns ≠ [] := fun v hm => by
    obtain ⟨ns, t, n⟩ := hp v hm
    exact ⟨ns, t.keeps kp, n⟩
  obtain ⟨fs, h1, h2, h3⟩ := firsts_rows vs hp'
  refine ⟨tuples' true, fun Q E hq => ?_, fun p q hm hm' => ?_⟩
  · refine PySem.W.kat_kind (T := .type "int") h1 (by omega) (fun f hm => ?_) (by rfl) ?_
    · obtain ⟨x, t, rfl⟩ := h3 f hm
      exact PySem.W.Looks.now
    · have e : (Value.type "int" != Value.type "tuple") = true := by first | decide +kernel | rfl | decide
      rw [e]; exact hq
  · obtain ⟨ns, t1, _⟩ := hp _ hm
    obtain ⟨ms, t2, _⟩ := hp _ hm'
    show wpAny (model prog w) A (keyLt' (tuples' true) p.1 q.1) (fun r s' => s' = _ ∧ r = HT.lexLt (k p.1) (k q.1)) (fun _ _ => False) _
    rw [hk _ hm ns t1, hk _ hm' ms t2]
    obtain ⟨x, xs, e1, ⟨o, ho, hc, n, hd⟩, i1⟩ := t1.keeps kp
    obtain ⟨y, ys, e2, ⟨o', ho', hc', n', hd'⟩, i2⟩ := t2.keeps kp
    rw [e1, e2]
    exact PySem.W.kat_lt ho hd ho' hd' (kat_rows i1 0 i2 (by simp))
end
/-- sorted(xs), xs a list of tuples of ints, none of them empty -/
def rSortR (K : PySem.W.Frag) : List V → Hp → VK → Prop := fun vs H Q => ∃ (a : Addr) (xs : List V), vs = [V.ref a] ∧ SqL K H a xs ∧ (∀ x ∈ xs, ∃ ns, TupI K H x ns ∧ ns ≠ []) ∧
  ∀ (ys : List V) (p : Addr), ys.Perm xs → ys.Pairwise (fun x y => ∀ n m, TupI K H x n → TupI K H y m → HT.lexLt m n = false) → H p = none → Q (.ref p) (upd H p (.lst ys))
/-- sorted(xs), xs a tuple of ints -/
def rSortTI (K : PySem.W.Frag) : List V → Hp → VK → Prop := fun vs H Q => ∃ (a : Addr) (ns : List Int), vs = [V.ref a] ∧ SqT K H a (ns.map V.int) ∧
  ∀ (ns' : List Int) (p : Addr), ns'.Perm ns → ns'.Pairwise (· ≤ ·) → H p = none → Q (.ref p) (upd H p (.lst (ns'.map V.int)))
section
variable {X : Cx}
theorem cr_sortR : CallR X (.builtin "sorted") (rSortR X.K) := by
  intro pins s σ H vs us Q I r h
  obtain ⟨a, xs, rfl, hs, hx, q⟩ := h
  obtain ⟨its, rv, hl, hz⟩ := I.list hs
  rw [Vals.ref1 r]
  obtain ⟨e1, e2⟩ := bkV_refs rv fun x m => by
    obtain ⟨ns, ⟨t, e, _⟩, _⟩ := hx x m
    exact ⟨t, e⟩
  have ht : ∀ v ∈ its, ∃ ns, TS.TupInts s.heap v ns ∧ ns ≠ [] := fun v hv => by
    obtain ⟨t, rfl⟩ := e2 v hv
    obtain ⟨ns, ⟨t', e, ht⟩, hn⟩ := hx (.ref t) (by rw [e1]; exact List.mem_map.mpr ⟨_, hv, rfl⟩)
    cases e
    exact ⟨ns, tupI_raw I ht, hn⟩
  refine SrtO.sorted_ord (swo_rows (TS.intsOf s.heap)) hl.isList (by rw [← rv.length]; exact hz) (fun h2 h₁ a' ha kk => ?_) fun out h1 h2 => ?_
  · refine rows_sortable (s := { s with heap := h₁ }) (by omega) (fun v hv => ?_) _ (fun v hv ns t => ?_) fun o e => ?_
    · obtain ⟨ns, t, n⟩ := ht v hv
      exact ⟨ns, t.keeps fun b o e _ => (kk b o e).2, n⟩
    · obtain ⟨ms, t', _⟩ := ht v hv
      have e3 := (t'.keeps (h' := h₁) fun b o e _ => (kk b o e).2).ints
      rw [t'.ints, ← e3]; exact t.ints
    · have e' : some o = some (seqObj "list" its.toArray 0) := e.symm.trans ha
      cases e'
      intro c
      exact absurd (Value.type.inj c) (by decide)
  · obtain ⟨ep, he'⟩ := PyProof.Rows.sortedAll_at s.heap its out.toArray
    have h3 : ∀ u ∈ out, ∃ a, u = Value.ref a := fun u hu => e2 u (h2.perm.mem_iff.mp hu)
    have hp : (out.map bkV).Perm xs := by rw [e1]; exact h2.perm.map bkV
    have hlen : (out.map bkV).length ≤ sizeLine := by rw [hp.length_eq]; exact hz
    refine ⟨.ref _, upd H (s.heap.objs.size + 1) (.lst (out.map bkV)), I.laid (t' := s.toks) (fun _ _ => PyProof.Rows.sortedAll_old) (Nat.le_succ _) ⟨hlen, out, ep, bkV_vals h3, he'⟩, rfl, q _ _ hp ?_ (I.hok.fresh (Nat.le_succ _))⟩
    rw [List.pairwise_map]
    refine List.Pairwise.imp (fun {u v} huv n m hn hm => ?_) h1
    obtain ⟨t, et, ht⟩ := hn
    obtain ⟨t', et', ht'⟩ := hm
    have i1 : TS.intsOf s.heap u = n := by rw [bkV_ref et]; exact (tupI_raw I ht).ints
    have i2 : TS.intsOf s.heap v = m := by rw [bkV_ref et']; exact (tupI_raw I ht').ints
    have huv : HT.lexLt (TS.intsOf s.heap v) (TS.intsOf s.heap u) = false := huv
    rw [i1, i2] at huv
    exact huv
theorem cr_sortTI : CallR X (.builtin "sorted") (rSortTI X.K) := by
  intro pins s σ H vs us Q I r h
  obtain ⟨a, ns, rfl, hs, q⟩ := h
  obtain ⟨its, rv, hT, hz⟩ := I.tuple hs
  rw [Vals.ref1 r]
  have hi := rv.ints
  have hl : s.heap.IsTuple a its.toArray := hT
  have hz' : its.length ≤ sizeLine := by rw [← rv.length]; exact hz
  refine sorted_col SrtO.swo_int hz' (fun A' Q E h => collect_tupl hl h hz') (fun h2 h₁ a' _ _ => SrtO.ints_sortable hi h2) fun out h1 h2 => ?_
  obtain ⟨k1, k2, k3⟩ := SrtO.ints_out hi h1 h2
  obtain ⟨ep, he'⟩ := PyProof.Rows.sortedAll_at s.heap its out.toArray
  have hlen : ((out.map SrtO.iv).map V.int).length ≤ sizeLine := by
    rw [List.length_map, k2.length_eq]
    rw [List.length_map] at hz; exact hz
  exact ⟨.ref _, upd H (s.heap.objs.size + 1) (.lst ((out.map SrtO.iv).map V.int)), I.laid (t' := s.toks) (fun _ _ => PyProof.Rows.sortedAll_old) (Nat.le_succ _) ⟨hlen, out, ep, vals_of_ints k1, he'⟩, rfl, q _ _ k2 k3 (I.hok.fresh (Nat.le_succ _))⟩
end
end DL

/-! DL26: sorted, as data; index of nested data. -/
namespace DL
open PySem PySem.Spec PyProof.Rows L2
theorem CallR.or {X : Cx} {f : Value} {r1 r2 : List V → Hp → VK → Prop} (h1 : CallR X f r1) (h2 : CallR X f r2) : CallR X f fun vs H Q => r1 vs H Q ∨ r2 vs H Q := by
  intro pins s σ H vs us Q I r h
  exact h.elim (h1 pins s σ H vs us Q I r) (h2 pins s σ H vs us Q I r)
def sortedRows (out rows : List (List Int)) : Prop := out.Perm rows ∧ out.Pairwise fun a b => HT.lexLt b a = false
def wSortX : WA := fun ds q => (∃ ns : List Int, (ds = [.list (ns.map PyData.int)] ∨ ds = [.tuple (ns.map PyData.int)]) ∧ ∀ ns' : List Int, ns'.Perm ns → ns'.Pairwise (· ≤ ·) → q (.list (ns'.map PyData.int))) ∨
  ∃ rows : List (List Int), ds = [.list (rows.map tupD)] ∧ (∀ r ∈ rows, r ≠ []) ∧ ∀ out, sortedRows out rows → q (.list (out.map tupD))
theorem wSortX_mo : MoWA wSortX := fun d p p' h q => q.elim (fun ⟨ns, e, q⟩ => .inl ⟨ns, e, fun m a b => h _ (q m a b)⟩) fun ⟨rows, e, n, q⟩ => .inr ⟨rows, e, n, fun out o => h _ (q out o)⟩
section
variable {K : PySem.W.Frag} {S : List Addr} {H : Hp}
theorem tupI_of {x : V} {ns : List Int} (r : R K S H x (tupD ns)) : TupI K H x ns := by
  unfold tupD at r
  cases r with
  | tup hx rx lx => rw [rx.ints_inv] at hx; exact ⟨_, rfl, tq hx⟩
theorem ra_perm {xs ys : List V} (h : ys.Perm xs) : ∀ {rows : List (List Int)}, RA K S H xs (rows.map tupD) → ∃ out : List (List Int), out.Perm rows ∧ RA K S H ys (out.map tupD) := by
  induction h with
  | nil =>
    intro rows r
    cases rows with
    | nil => exact ⟨[], List.Perm.refl _, .nil⟩
    | cons => cases r
  | cons x p ih =>
    intro rows r
    cases rows with
    | nil => cases r
    | cons a t =>
      cases r with
      | cons r0 rt =>
        obtain ⟨out, h1, h2⟩ := ih rt
        exact ⟨a :: out, h1.cons a, .cons r0 h2⟩
  | swap x y l =>
    intro rows r
    cases rows with
    | nil => cases r
    | cons a t =>
      cases t with
      | nil => cases r with | cons _ rt => cases rt
      | cons b t =>
        cases r with
        | cons r0 rt =>
          cases rt with
          | cons r1 rt => exact ⟨b :: a :: t, List.Perm.swap a b t, .cons r1 (.cons r0 rt)⟩
  | trans p1 p2 ih1 ih2 =>
    intro rows r
    obtain ⟨o1, h1, h2⟩ := ih2 r
    obtain ⟨o2, h3, h4⟩ := ih1 h2
    exact ⟨o2, h3.trans h1, h4⟩
theorem ra_pair : ∀ {ys : List V} {out : List (List Int)}, RA K S H ys (out.map tupD) → ys.Pairwise (fun x y => ∀ n m, TupI K H x n → TupI K H y m → HT.lexLt m n = false) → out.Pairwise fun a b => HT.lexLt b a = false
  | [], [], _, _ => List.Pairwise.nil
  | [], _ :: _, r, _ => by cases r
  | _ :: _, [], r, _ => by cases r
  | y :: ys, a :: out, r, h => by
    cases r with
    | cons r0 rt =>
      obtain ⟨h1, h2⟩ := List.pairwise_cons.mp h
      refine List.pairwise_cons.mpr ⟨fun b hb => ?_, ra_pair rt h2⟩
      obtain ⟨i, hi⟩ := List.mem_iff_getElem?.mp hb
      obtain ⟨v, e, rv⟩ := rt.get (i := i) (d := tupD b) (by rw [List.getElem?_map, hi]; rfl)
      exact h1 v (List.mem_of_getElem? e) a b (tupI_of r0) (tupI_of rv)
theorem ra_rows : ∀ {xs : List V} {rows : List (List Int)}, RA K S H xs (rows.map tupD) → (∀ r ∈ rows, r ≠ []) → ∀ x ∈ xs, ∃ ns, TupI K H x ns ∧ ns ≠ []
  | [], _, _, _, x, hx => by cases hx
  | _ :: _, [], r, _, _, _ => by cases r
  | y :: ys, a :: rows, r, h, x, hx => by
    cases r with
    | cons r0 rt =>
      rcases List.mem_cons.mp hx with rfl | hx
      · exact ⟨a, tupI_of r0, h a List.mem_cons_self⟩
      · exact ra_rows rt (fun r hr => h r (List.mem_cons_of_mem _ hr)) x hx
def rSortX (K : PySem.W.Frag) : List V → Hp → VK → Prop := fun vs H Q => rSortedI K vs H Q ∨ (rSortTI K vs H Q ∨ rSortR K vs H Q)
theorem sv_sortX : SvA K (rSortX K) wSortX := fun S H xs ds Q tr r q => by
  rcases q with ⟨ns, e, q⟩ | ⟨rows, e, hn, q⟩
  · rcases e with e | e
    · exact .inl (sv_sortI S H xs ds Q tr r ⟨ns, e, q⟩)
    · subst e
      obtain ⟨x, rfl, rb⟩ := r.one
      cases rb with
      | tup hx rx lx =>
        rw [rx.ints_inv] at hx
        refine .inr (.inl ⟨_, ns, rfl, tq hx, fun ns' p a b hp => q ns' a b _ _ (same_new hp) (.lst (.inl ⟨notS tr hp, .inl upd_same⟩) (RA.ints ns') ?_)⟩)
        rw [List.length_map] at lx ⊢
        rw [a.length_eq]; exact lx
  · subst e
    obtain ⟨x, rfl, rb⟩ := r.one
    cases rb with
    | lst hx rx lx =>
      refine .inr (.inr ⟨_, _, rfl, hx.sq, ra_rows rx hn, fun ys p hp hs hf => ?_⟩)
      obtain ⟨out, o1, o2⟩ := ra_perm hp rx
      refine q out ⟨o1, ra_pair o2 hs⟩ _ _ (same_new hf) (.lst (.inl ⟨notS tr hf, .inl upd_same⟩) (o2.kp (Kp.same (same_new hf))) ?_)
      rw [List.length_map] at lx ⊢
      rw [o1.length_eq]; exact lx
end
section
variable {X : Cx} {B : BI} {a o e : Expr} {es : List Expr} {ta tb : ET} {tas : ETA} {p pos apos cpos : Pos}
theorem d_sortedX (hK : B.K = X.K) (hg : Gl X "sorted") (hm : X.mg "sorted" = none) (ha : DA X B (a :: es) tas) (h1 : starEach (a :: es) X.env = (false, eval a X.env) :: starEach es X.env := by rfl) (h2 : (backTo pos (starEach es X.env)).any (·.1) = false := by rfl) :
    DE X B (.Call (.Name "sorted" p) (a :: es) [] pos) (eB wSortX tas) := d_callB (CallR.or cr_sortedI (CallR.or cr_sortTI cr_sortR)) wSortX_mo (hK ▸ sv_sortX) hg hm (by decide +kernel) ha (h1 := h1) (h2 := h2)
/-- l.index(x), what is compared as data -/
def wFirstD (ds : List D) (x : D) (q : D → Prop) : Prop := (eqOk x ∧ eqOk (.list ds)) ∧ ∃ (j : Nat) (d : D), ds[j]? = some d ∧ PyData.eqv d x = true ∧ (∀ (m : Nat) (d' : D), m < j → ds[m]? = some d' → PyData.eqv d' x = false) ∧ q (.int (j : Nat))
def eIdxD (ta tb : ET) : ET := fun ρ p => ta ρ fun o ρ1 => match o with
  | .v (.list ds) => tb ρ1 fun o' ρ2 => wD (o'.get ρ2) fun x => wFirstD ds x fun z => p (.v z) ρ2
  | _ => False
theorem d_idxD (hK : B.K = X.K) (hu : X.A.units + 66 < cLine) (ho : DE X B o ta) (he : DE X B e tb) (hbase : attributeBase o "index" X.env (eval o X.env) = eval o X.env := by rfl)
    (hfew : ((backTo cpos (starEach (e :: []) X.env)).all (fun x => !x.1) && (backToKw cpos (keywordEach [] X.env)).all (fun x => x.1.isSome)
      && decide ((e :: []).length + ([] : List Keyword).length + (if ([] : List Keyword).isEmpty then 0 else 1) < 30)) = true := by rfl)
    (hline : (apos.endLine == cpos.line) = true := by rfl) (hs : starEach (e :: []) X.env = (false, eval e X.env) :: starEach [] X.env := by rfl) (hplain : (backTo cpos (starEach [] X.env)).any (·.1) = false := by rfl) :
    DE X B (.Call (.Attribute o "index" apos) (e :: []) [] cpos) (eIdxD ta tb) :=
  ⟨peOf (pe_bm PySem.F.plainAttrs_list PySem.F.slot_list_index PySem.F.type_list_index (mt_indexD (by omega)) ho.pe (pa_cons he.pe pa_nil hs) hbase hfew hline hs hplain) fun σ H Q ⟨S, ρ, g, q⟩ => ⟨S, ρ, g, ho.mo _ _ _ (fun o1 ρ1 q x S1 H1 k1 g1 h1 => by
    split at q
    · rename_i ds
      have h1 : R B.K S1 H1 x (.list ds) := h1
      have r0 := h1
      cases h1 with
      | lst hx rx lx =>
        rw [← hK]
        refine ⟨.inl ⟨rfl, _, LX.sq (hx.imp (·.2) id)⟩, S1, ρ1, g1, he.mo _ _ _ (fun o2 ρ2 q y S2 H2 k2 g2 h2 => ?_) q⟩
        obtain ⟨d, ed, ⟨oe, ol⟩, j, z, e1, e2, e3, q⟩ := wD_inv q
        have r2 : R B.K S2 H2 _ (.list ds) := r0.kp k2
        exact ⟨_, y, d, ds, j, z, rfl, rfl, r2.dp ol.nd, (h2.get g2 ed).dp oe.nd, ol, oe, e1, e2, e3, q _ S2 H2 (k1.trans k2) g2 (.int _)⟩
    · exact q.elim) q⟩, fun ρ p p' h q => ho.mo _ _ _ (fun o1 ρ1 q => by
    split at q
    · exact he.mo _ _ _ (fun o2 ρ2 q => wD_mono (fun d ⟨a, j, z, b, c, e, f⟩ => ⟨a, j, z, b, c, e, h _ _ f⟩) q) q
    · exact q) q⟩
end
end DL

/-! DL27: tuple(range(..)). -/
namespace DL
open PySem PySem.Spec PyProof.Rows L2
section
variable {X : Cx} {B : BI} {a b : Expr} {es : List Expr} {ta tb : ET} {p p2 pos pos2 : Pos}
def tTupRgF (te : L2.St → Hp → (Int → Int → Hp → Prop) → Prop) : TE := fun σ H Q => te σ H fun a b H1 => RgOk a b ∧ NewT H1 (rgV a b) Q
theorem pe_tupRgF {e : Expr} {te : L2.St → Hp → (Int → Int → Hp → Prop) → Prop} {p pos : Pos} (hc : X.calm = true) (hg : Gl X "tuple") (hm : X.mg "tuple" = none) (he : PRg X e te) (na : starEach [e] X.env = (false, eval e X.env) :: starEach [] X.env := by rfl) : PE X (.Call (.Name "tuple" p) [e] [] pos) (tTupRgF te) := by
  refine ⟨fun pins s σ H Q I h => ?_⟩
  refine Call_ (ld_blt I hg hm boot_tuple (PyProof.Rows.callWith_type1 (args_cons (thn (he pins s σ H _ I h) fun x s1 ⟨r, a, b, t, u, v, H1, ex, hr, I1, ok, q⟩ => args_nil ?_) na) na))
  subst ex
  obtain ⟨b1, b2, b3, b4, b5⟩ := ok
  refine call_tuple_range (n := (b - a).toNat) (I1.ok.hd hc) hr (small_one b1 b2 b3 b4) (rangeSize_nat a b) b5 fun h' tk acc hk hi => ?_
  have := new_tup (s := s1) (h' := h') (tk := tk) (I1.kept hk) (vals_rg hi) (by rw [rgV_length, sizeLine_eq]; omega) q
  rw [Array.toArray_toList] at this
  exact this
def eTupRg1 (ta : ET) : ET := fun ρ p => ta ρ fun o ρ1 => wI o fun j => rgListW 0 j fun ds => p (.v (.tuple ds)) ρ1
def eTupRg2 (ta tb : ET) : ET := fun ρ p => ta ρ fun o ρ1 => tb ρ1 fun o' ρ2 => wI o fun i => wI o' fun j => rgListW i j fun ds => p (.v (.tuple ds)) ρ2
theorem d_tupRg1 (hc : X.calm = true) (hg : Gl X "tuple") (hm : X.mg "tuple" = none) (hg2 : Gl X "range") (hm2 : X.mg "range" = none) (ha : DE X B a ta) (n1 : starEach [a] X.env = (false, eval a X.env) :: starEach [] X.env := by rfl)
    (n2 : starEach [.Call (.Name "range" p2) [a] [] pos2] X.env = (false, eval (.Call (.Name "range" p2) [a] [] pos2) X.env) :: starEach [] X.env := by rfl) :
    DE X B (.Call (.Name "tuple" p) [.Call (.Name "range" p2) [a] [] pos2] [] pos) (eTupRg1 ta) :=
  ⟨peOf (pe_tupRgF hc hg hm (prg_1 hg2 hm2 ha.pe n1) n2) fun σ H Q ⟨S, ρ, g, q⟩ => ⟨S, ρ, g, ha.mo _ _ _ (fun o ρ1 q x S1 H1 k1 g1 h1 => by
    obtain ⟨j, rfl, q⟩ := wI_inv q
    cases (show R B.K S1 H1 x (.int j) from h1)
    refine ⟨j, rfl, q.1, fun p o hp hd => q.2.2 _ S1 _ (k1.trans (Kp.same (same_new hp))) (g1.same (same_new hp)) ?_⟩
    exact R.tup (.inl ⟨notS g1.trk hp, NewT.at hd⟩) (ra_rg 0 j) (by rw [rangeD_length]; exact q.2.1)) q⟩, fun ρ p p' h q => ha.mo _ _ _ (fun o ρ1 q => wI_mono (fun j q => ⟨q.1, q.2.1, h _ _ q.2.2⟩) q) q⟩
theorem d_tupRg2 (hc : X.calm = true) (hg : Gl X "tuple") (hm : X.mg "tuple" = none) (hg2 : Gl X "range") (hm2 : X.mg "range" = none) (ha : DE X B a ta) (hb : DE X B b tb) (n1 : starEach [a, b] X.env = (false, eval a X.env) :: starEach [b] X.env := by rfl) (n1' : starEach [b] X.env = (false, eval b X.env) :: starEach [] X.env := by rfl)
    (hp : (backTo pos2 (starEach [b] X.env)).any (·.1) = false := by rfl) (n2 : starEach [.Call (.Name "range" p2) [a, b] [] pos2] X.env = (false, eval (.Call (.Name "range" p2) [a, b] [] pos2) X.env) :: starEach [] X.env := by rfl) :
    DE X B (.Call (.Name "tuple" p) [.Call (.Name "range" p2) [a, b] [] pos2] [] pos) (eTupRg2 ta tb) :=
  ⟨peOf (pe_tupRgF hc hg hm (prg_2 hg2 hm2 ha.pe hb.pe n1 n1' hp) n2) fun σ H Q ⟨S, ρ, g, q⟩ => ⟨S, ρ, g, ha.mo _ _ _ (fun o ρ1 q x S1 H1 k1 g1 h1 => ⟨S1, ρ1, g1, hb.mo _ _ _ (fun o' ρ2 q y S2 H2 k2 g2 h2 => by
    obtain ⟨i, e1, q⟩ := wI_inv q
    obtain ⟨j, e2, q⟩ := wI_inv q
    have h1' := h1.kp k2
    rw [e1] at h1'; rw [e2] at h2
    cases (show R B.K S2 H2 x (.int i) from h1')
    cases (show R B.K S2 H2 y (.int j) from h2)
    refine ⟨i, j, rfl, rfl, q.1, fun p o hp hd => q.2.2 _ S2 _ ((k1.trans k2).trans (Kp.same (same_new hp))) (g2.same (same_new hp)) ?_⟩
    exact R.tup (.inl ⟨notS g2.trk hp, NewT.at hd⟩) (ra_rg i j) (by rw [rangeD_length]; exact q.2.1)) q⟩) q⟩, fun ρ p p' h q => ha.mo _ _ _ (fun o ρ1 q => hb.mo _ _ _ (fun o' ρ2 q => wI_mono (fun i q => wI_mono (fun j q => ⟨q.1, q.2.1, h _ _ q.2.2⟩) q) q) q) q⟩
end
end DL

/-! DL28: an owned list is let go: from here on it is data. -/
namespace DL
open PySem PySem.Spec PyProof.Rows L2
section
variable {X : Cx} {B : BI} {S : List Addr} {σ : L2.St} {H : Hp} {ρ : Env} {i : Nat} {o : O} {d : D}
theorem frz_sr (g : SR B S σ H ρ) (hi : ρ[i]? = some (.own true o)) (ed : o.dat = some d) : ∃ S', Kp S H S' H ∧ SR B S' σ H (ρ.set i (.d d)) := by
  obtain ⟨fps, h1, h2⟩ := g.own
  obtain ⟨v, e1, w, m1, g4⟩ := h1 i true o hi
  have h0 : ∀ a ∈ fps i, B.H0 a = none := by
    rcases g4 with ⟨_, g4⟩ | ⟨z, _⟩
    · exact g4
    · cases z
  have il : i < ρ.length := by
    by_cases q : i < ρ.length
    · exact q
    · rw [List.getElem?_eq_none (by omega)] at hi; cases hi
  let S' := S.filter fun a => !decide (a ∈ fps i)
  have sub : ∀ a ∈ S', a ∈ S := fun a h => (List.mem_filter.mp h).1
  have no : ∀ a ∈ fps i, a ∉ S' := fun a h m => by
    have := (List.mem_filter.mp m).2
    rw [decide_eq_true h] at this; cases this
  have yes : ∀ a, a ∈ S → a ∉ fps i → a ∈ S' := fun a h n => List.mem_filter.mpr ⟨h, by rw [decide_eq_false n]; rfl⟩
  have k : Kp S H S' H := fun a o' n e => ⟨fun m => n (sub a m), e⟩
  have oth : ∀ (j : Nat) (f : Bool) (o' : O), (ρ.set i (.d d))[j]? = some (.own f o') → j ≠ i ∧ ρ[j]? = some (.own f o') := fun j f o' e => by
    by_cases c : j = i
    · subst c; rw [List.getElem?_set_self il] at e; cases e
    · rw [List.getElem?_set_ne (fun e => c e.symm)] at e; exact ⟨c, e⟩
  refine ⟨S', k, ?_⟩
  exact {
    len := by rw [List.length_set]; exact g.len
    dat := fun j d' e => by
      by_cases c : j = i
      · subst c
        rw [List.getElem?_set_self il] at e
        cases e
        exact ⟨v, e1, w.dat ed sub no⟩
      · rw [List.getElem?_set_ne (fun e => c e.symm)] at e
        obtain ⟨u, a1, a2⟩ := g.dat j d' e
        exact ⟨u, a1, a2.kp k⟩
    own := ⟨fps, fun j f o' e => by
      obtain ⟨c, e⟩ := oth j f o' e
      obtain ⟨u, a1, a2, a3, a4⟩ := h1 j f o' e
      refine ⟨u, a1, a2.kp k fun _ _ => rfl, fun a ha => ⟨yes a (a3 a ha).1 (h2 j i f o' true o c e hi a ha), (a3 a ha).2⟩, a4⟩, fun j l f o1 f' o2 n ej el => by
      obtain ⟨cj, ej⟩ := oth j f o1 ej
      obtain ⟨cl, el⟩ := oth l f' o2 el
      exact h2 j l f o1 f' o2 n ej el⟩
    keep := g.keep
    trk := fun a h => g.trk a (sub a h)
    sub := fun a h => yes a (g.sub a h) fun m => by
      obtain ⟨u, hu⟩ := g.there a h
      rw [h0 a m] at hu; cases hu
    there := g.there
    fsub := g.fsub
    pin := fun p hp => ⟨(g.pin p hp).1, yes p.1 (g.pin p hp).2 fun m => (m1 p.1 m).2 p hp rfl⟩ }
def sFrz (i : Nat) (t : STy) : STy := fun D ρ => match ρ[i]? with
  | some (.own true o) => wD o.dat fun d => t D (ρ.set i (.d d))
  | _ => False
theorem sFrz_mo {t : STy} (mt : MoS t) : MoS (sFrz i t) := fun D D' ρ l q => by
  unfold sFrz at *
  split at q
  · rename_i o e
    skip
    exact wD_mono (fun d q => mt D D' _ l q) q
  · exact q.elim
theorem dss_frz {st : List Stmt} {t : STy} (h : DSs X B st t) : DSs X B st (sFrz i t) :=
  ⟨pssOf h.pss fun D σ H ⟨S, ρ, D', g, l, q⟩ => by
    unfold sFrz at q
    split at q
    · rename_i o e
      obtain ⟨d, ed, q⟩ := wD_inv q
      obtain ⟨S', k, g'⟩ := frz_sr g e ed
      exact ⟨S', _, D', g', l.kp k, q⟩
    · exact q.elim, sFrz_mo h.mo⟩
end
end DL

/-! DL29: t.count(x), t a tuple of flat items. -/
namespace DL
open PySem PySem.Spec PyProof.Rows L2
theorem countP_eqU {x : V} : ∀ {xs : List V} {us : List Value}, Vals xs us → xs.all flatV = true → us.countP (eqU x) = xs.countP fun y => eqV y x
  | _, _, .nil, _ => rfl
  | y :: xs, u :: us, .cons r t, f => by
    rw [List.all_cons, Bool.and_eq_true] at f
    rw [List.countP_cons, List.countP_cons, eqU_of r f.1, countP_eqU t f.2]
section
variable {X : Cx}
def rTupCnt (K : PySem.W.Frag) : V → List V → Hp → VK → Prop := fun x xs H Q => ∃ (p : Addr) (ys : List V) (z : V), x = .ref p ∧ xs = [z] ∧ SqT K H p ys ∧ flatV z = true ∧ ys.all flatV = true ∧ Q (.int ((ys.countP fun y => eqV y z : Nat) : Int)) H
theorem mt_tupCnt : MtR X "tuple.count" (rTupCnt X.K) := by
  intro pins s σ H x xs v us Q I rx rs h
  obtain ⟨p, ys, z, rfl, rfl, hq, fz, fys, q⟩ := h
  cases rx
  obtain ⟨u, rfl, ru⟩ := vals1 rs
  obtain ⟨its, r, pl, hz⟩ := I.tuple hq
  obtain ⟨⟨cls, dd, dt, sl⟩, ho, hc, n, hd⟩ := pl
  simp only at hc hd
  subst hc
  subst hd
  have ec : its.toArray.toList.countP (eqU z) = ys.countP fun y => eqV y z := countP_eqU r fys
  refine call_meets PySem.F.slot_tuple_count ⟨_, ho, rfl⟩ PySem.F.entry_tuple_count (PySem.F.args_tuple_count_2 _ _) (SeqAt.tuple_countAt p its.toArray n dd sl u (eqU z))
    ⟨ho, fun w' hw => mem_eqAt (x := z) ru fz r fys w' (by simpa using hw), ⟨.int ((ys.countP fun y => eqV y z : Nat) : Int), H, I.tok _, ⟨s.toks, ?_⟩, q⟩⟩
  show Value.int ((its.toArray.toList.countP (eqU z) : Nat) : Int) s.toks = Value.int ((ys.countP fun y => eqV y z : Nat) : Int) s.toks
  rw [ec]
end
section
variable {X : Cx} {o e : Expr} {to te : TE} {apos cpos : Pos}
def tCnt (K : PySem.W.Frag) (to te : TE) : TE := fun σ H Q => to σ H fun x H1 => (∃ a xs, x = .ref a ∧ (RdT H1 a xs ∨ KT' K a xs)) ∧ te σ H1 fun y H2 => rTupCnt K x [y] H2 Q
theorem pe_cnt (ho : PE X o to) (he : PE X e te) (hbase : attributeBase o "count" X.env (eval o X.env) = eval o X.env := by rfl)
    (hfew : ((backTo cpos (starEach (e :: []) X.env)).all (fun x => !x.1) && (backToKw cpos (keywordEach [] X.env)).all (fun x => x.1.isSome)
      && decide ((e :: []).length + ([] : List Keyword).length + (if ([] : List Keyword).isEmpty then 0 else 1) < 30)) = true := by rfl)
    (hline : (apos.endLine == cpos.line) = true := by rfl) (hs : starEach (e :: []) X.env = (false, eval e X.env) :: starEach [] X.env := by rfl) (hplain : (backTo cpos (starEach [] X.env)).any (·.1) = false := by rfl) :
    PE X (.Call (.Attribute o "count" apos) (e :: []) [] cpos) (tCnt X.K to te) := by
  refine ⟨fun pins s σ H Q I h => wpAny_Call_method_late hbase hfew hline rfl (thn (ho.run pins s σ H _ I h) fun v s1 hv => ?_)⟩
  obtain ⟨x, H1, I1, r1, ⟨a, xs, ex, ht⟩, q1⟩ := hv
  subst ex
  cases r1
  obtain ⟨h1, h2⟩ := tup_plain I1 ht
  refine ⟨"tuple", _, PySem.F.plainAttrs_tuple, PySem.F.slot_tuple_count, PySem.F.type_tuple_count, h1, h2, ?_⟩
  have hA := (pa_cons he pa_nil hs).run cpos pins s1 σ H1 (fun ys H2 => rTupCnt X.K (.ref a) ys H2 Q) I1 q1
  rw [hs] at hA ⊢
  refine Calls.callWith_builtin (by show (false || (backTo cpos (starEach [] X.env)).any (·.1)) = false; rw [hplain] <;> rfl) (Calls.evalArgs_plain ?_)
  exact thn hA fun us s2 ⟨vs, H2, I2, r2, q2⟩ => mt_tupCnt pins s2 σ H2 (.ref a) vs (.ref a) us Q I2 rfl r2 q2
end
def wCount (ds : List D) (x : D) (q : D → Prop) : Prop := (flatD x = true ∧ ds.all flatD = true) ∧ q (.int ((ds.countP fun d => PyData.eqv d x : Nat) : Int))
def eCount (ta tb : ET) : ET := fun ρ p => ta ρ fun o ρ1 => match o with
  | .v (.tuple ds) => tb ρ1 fun o' ρ2 => wD (o'.get ρ2) fun x => wCount ds x fun z => p (.v z) ρ2
  | _ => False
theorem count_at {K : PySem.W.Frag} {S : List Addr} {H : Hp} {y : V} {x : D} (ry : RB K S H y x) (f1 : flatD x = true) : ∀ {xs : List V} {ds : List D}, RA K S H xs ds → ds.all flatD = true → (xs.countP fun v => eqV v y) = ds.countP fun d => PyData.eqv d x
  | [], ds, ra, _ => by cases ra; rfl
  | v :: xs, ds, ra, f => by
    cases ra with
    | cons rv rt =>
      rw [List.all_cons, Bool.and_eq_true] at f
      rw [List.countP_cons, List.countP_cons, count_at ry f1 rt f.2, flat_eqv rv ry f.1 f1]
theorem d_count {X : Cx} {B : BI} {o e : Expr} {ta tb : ET} {apos cpos : Pos} (hK : B.K = X.K) (ho : DE X B o ta) (he : DE X B e tb) (hbase : attributeBase o "count" X.env (eval o X.env) = eval o X.env := by rfl)
    (hfew : ((backTo cpos (starEach (e :: []) X.env)).all (fun x => !x.1) && (backToKw cpos (keywordEach [] X.env)).all (fun x => x.1.isSome)
      && decide ((e :: []).length + ([] : List Keyword).length + (if ([] : List Keyword).isEmpty then 0 else 1) < 30)) = true := by rfl)
    (hline : (apos.endLine == cpos.line) = true := by rfl) (hs : starEach (e :: []) X.env = (false, eval e X.env) :: starEach [] X.env := by rfl) (hplain : (backTo cpos (starEach [] X.env)).any (·.1) = false := by rfl) :
    DE X B (.Call (.Attribute o "count" apos) (e :: []) [] cpos) (eCount ta tb) :=
  ⟨peOf (pe_cnt ho.pe he.pe hbase hfew hline hs hplain) fun σ H Q ⟨S, ρ, g, q⟩ => ⟨S, ρ, g, ho.mo _ _ _ (fun o1 ρ1 q x S1 H1 k1 g1 h1 => by
    split at q
    · rename_i ds
      cases (show R B.K S1 H1 x (.tuple ds) from h1) with
      | tup hx rx lx =>
        rw [← hK]
        refine ⟨⟨_, _, rfl, hx.imp (·.2) id⟩, S1, ρ1, g1, he.mo _ _ _ (fun o2 ρ2 q y S2 H2 k2 g2 h2 => ?_) q⟩
        obtain ⟨d, ed, ⟨f1, f2⟩, q⟩ := wD_inv q
        have ry := h2.get g2 ed
        have rx2 := rx.kp k2
        obtain ⟨q1, _⟩ := RA.flat_any ry f1 rx2 f2
        refine ⟨_, _, y, rfl, rfl, hx.imp (fun h => (k2.rdT h.1 h.2).2.rd) KT'.t, ry.flat f1, q1, ?_⟩
        rw [count_at ry f1 rx2 f2]
        exact q _ S2 H2 (k1.trans k2) g2 (.int _)
    · exact q.elim) q⟩, fun ρ p p' h q => ho.mo _ _ _ (fun o1 ρ1 q => by
    split at q
    · exact he.mo _ _ _ (fun o2 ρ2 q => wD_mono (fun d q => ⟨q.1, h _ _ q.2⟩) q) q
    · exact q) q⟩
end DL

/-! DL30: in, not in, index of tuples whose items are compared as data; dicts of ints that are alike. -/
namespace DL
open PySem PySem.Spec PyProof.Rows L2
section
variable {X : Cx}
def rInT (K : PySem.W.Frag) : R2 := fun x y H Q => ∃ d ds, Dp K H x d ∧ Dp K H y (.tuple ds) ∧ SeqAt.shaped d = true ∧ SeqAt.shaped (.tuple ds) = true ∧ Q (.bl (ds.any fun z => PyData.eqv z d)) H
def rNotInT (K : PySem.W.Frag) : R2 := fun x y H Q => ∃ d ds, Dp K H x d ∧ Dp K H y (.tuple ds) ∧ SeqAt.shaped d = true ∧ SeqAt.shaped (.tuple ds) = true ∧ Q (.bl (!ds.any fun z => PyData.eqv z d)) H
theorem op_inT (hu : X.A.units + 65 < cLine) : OpR X (compareOp .In) (rInT X.K) := by
  intro pins s σ H x y v u Q I rx ry h
  obtain ⟨d, ds, hd, he, sd, se, q⟩ := h
  obtain ⟨as, r1⟩ := Dp.reads I d x v hd rx
  obtain ⟨bs, r2⟩ := Dp.reads I (.tuple ds) y u he ry
  exact SeqAt.in_tuple_reads r2 r1 (SeqAt.canLay_of_shaped se) (SeqAt.canLay_of_shaped sd) (room_in_shaped sd hu) ⟨.bl _, H, I, rfl, q⟩
theorem op_notInT (hu : X.A.units + 65 < cLine) : OpR X (compareOp .NotIn) (rNotInT X.K) := by
  intro pins s σ H x y v u Q I rx ry h
  obtain ⟨d, ds, hd, he, sd, se, q⟩ := h
  obtain ⟨as, r1⟩ := Dp.reads I d x v hd rx
  obtain ⟨bs, r2⟩ := Dp.reads I (.tuple ds) y u he ry
  exact SeqAt.notIn_tuple_reads r2 r1 (SeqAt.canLay_of_shaped se) (SeqAt.canLay_of_shaped sd) (room_in_shaped sd hu) ⟨.bl _, H, I, rfl, q⟩
def rIndexT (K : PySem.W.Frag) : V → List V → Hp → VK → Prop := fun x xs H Q => ∃ (a : Addr) (y : V) (d : PyData) (ds : List PyData) (j : Nat) (z : PyData), x = V.ref a ∧ xs = [y] ∧ Dp K H (V.ref a) (.tuple ds) ∧ Dp K H y d ∧
  SeqAt.shaped (.tuple ds) = true ∧ SeqAt.shaped d = true ∧ ds[j]? = some z ∧ PyData.eqv z d = true ∧ (∀ (m : Nat) (z' : PyData), m < j → ds[m]? = some z' → PyData.eqv z' d = false) ∧ Q (.int (j : Nat)) H
theorem mt_indexT (hu : X.A.units + 65 < cLine) : MtR X "tuple.index" (rIndexT X.K) := by
  intro pins s σ H x xs v us Q I rx rxs h
  obtain ⟨a, y, d, ds, j, z, rfl, rfl, hl, hy, sl, sd, hz, hzj, hno, q⟩ := h
  cases rx
  cases rxs with
  | cons ry rt =>
    rename_i uy ut
    cases rt
    obtain ⟨bs, r1⟩ := Dp.reads I d y uy hy ry
    have hxs : PyData.canLayAll0 ds = true := SeqAt.canLay_of_shaped sl
    have hroom : X.A.units + 1 + min (PyData.depthAll ds) d.depth < cLine := room_in_shaped sd hu
    cases hl with
    | tup hs ha =>
      obtain ⟨its, rv, pl, hz2⟩ := I.tuple hs
      obtain ⟨⟨cls, dd, dt, sls⟩, ho, hc, n, hdt⟩ := pl
      simp only at hc hdt
      subst hc
      subst hdt
      obtain ⟨as, h4⟩ := Dp.readsAll I ds _ its ha rv
      have hn : its.length = ds.length := SeqAt.ReadsAll.length ds its as h4
      have hmap : its.map (SeqAt.readOf s.heap) = ds := SeqAt.readsAll_map ds its as hxs h4
      obtain ⟨hjd, _⟩ := List.getElem?_eq_some_iff.mp hz
      have hjl : j < its.length := by omega
      have hj : j < its.toArray.size := by simpa using hjl
      have at_ : ∀ (m : Nat) (hm : m < its.toArray.size) (z' : PyData), ds[m]? = some z' → SeqAt.readOf s.heap its.toArray[m] = z' := by
        intro m hm z' hz'
        have hml : m < its.length := by simpa using hm
        rw [← hmap, List.getElem?_map, List.getElem?_eq_getElem hml] at hz'
        have e1 : SeqAt.readOf s.heap its[m] = z' := Option.some.inj (show some (SeqAt.readOf s.heap its[m]) = some z' from hz')
        simpa using e1
      refine call_meets PySem.F.slot_tuple_index ⟨_, ho, rfl⟩ PySem.F.entry_tuple_index (PySem.F.args_tuple_index_2 _ _)
        (TI.tuple_indexAt a its.toArray n dd sls uy (fun u => PyData.eqv (SeqAt.readOf s.heap u) d) j hj ?_ ?_) ⟨ho, SeqAt.items_eqAt (vs := its.toArray) (show ReadsAll s.heap its.toArray.toList ds as from h4) r1 hxs (SeqAt.canLay_of_shaped sd) hroom, ?_⟩
      · show PyData.eqv (SeqAt.readOf s.heap its.toArray[j]) d = true
        rw [at_ j hj z hz]
        exact hzj
      · intro m hm hmj
        have hmd : m < ds.length := by omega
        have hz' : ds[m]? = some ds[m] := List.getElem?_eq_getElem hmd
        show PyData.eqv (SeqAt.readOf s.heap its.toArray[m]) d = false
        rw [at_ m hm _ hz']
        exact hno m _ hmj hz'
      · exact ⟨.int (j : Nat), H, I.tok _, ⟨_, rfl⟩, q⟩
/-! dicts -/
theorem rd_ok {pins : List (Addr × Obj)} {σ : L2.St} {H : Hp} {s : Shared} {a : Addr} {u : HO} (I : Inv X pins σ H s) (h : Rd H a u) : ObjOk X.prog X.w H s.heap a u := by
  rcases h with h | ⟨o, h⟩
  · exact I.hok a _ h
  · exact (I.hok a _ h).2
def rNeDR : R2 := fun x y H Q => ∃ a b ks ls, x = .ref a ∧ y = .ref b ∧ Rd H a (.dK ks) ∧ Rd H b (.dK ls) ∧ ks.length = ls.length ∧ (∀ p ∈ ks, valV ls p.1 = some p.2 ∧ flatB p.2 = true) ∧ Q (.bl false) H
theorem op_neDR (hu : X.A.units < cLine) : OpR X (compareOp .NotEq) rNeDR := by
  intro pins s σ H x y v u Q I rx ry h
  obtain ⟨a, b, ks, ls, rfl, rfl, ea, eb, hlen, hp, q⟩ := h
  obtain rfl : v = Value.ref a := rx
  obtain rfl : u = Value.ref b := ry
  obtain ⟨_, ya, va, ra, da⟩ := (show ObjOk X.prog X.w H s.heap a (.dK ks) from rd_ok I ea)
  obtain ⟨_, yb, vb, rb, db⟩ := (show ObjOk X.prog X.w H s.heap b (.dK ls) from rd_ok I eb)
  have hl : va.length = vb.length := by rw [← ra.length, ← rb.length]; exact hlen
  exact PySem.W.keq_ne (knd := mixKind X.prog X.w) (r := true) ya yb da db hu (fun _ => hits_all rb ra hp) (fin_bl I q (by simp [hl]))
end
def wInT : W2
  | x, .tuple ds, q => (eqOk x ∧ eqOk (.tuple ds)) ∧ q (.bool (anyD x ds))
  | _, _, _ => False
def wNotInT : W2
  | x, .tuple ds, q => (eqOk x ∧ eqOk (.tuple ds)) ∧ q (.bool (!anyD x ds))
  | _, _, _ => False
theorem wInT_mo : Mo2 wInT := fun d e p p' h q => by
  unfold wInT at *; split at q <;> first | exact ⟨q.1, h _ q.2⟩ | exact q
theorem wNotInT_mo : Mo2 wNotInT := fun d e p p' h q => by
  unfold wNotInT at *; split at q <;> first | exact ⟨q.1, h _ q.2⟩ | exact q
def wNeK : W2 := fun d e q => ∃ kds : List (Key × D), d = dictD kds ∧ e = dictD kds ∧ kds ≠ [] ∧ (∀ p ∈ kds, valD kds p.1 = some p.2 ∧ ∃ i, p.2 = .int i) ∧ q (.bool false)
theorem wNeK_mo : Mo2 wNeK := fun d e p p' h ⟨k, a, b, c, g, q⟩ => ⟨k, a, b, c, g, h _ q⟩
section
variable {K : PySem.W.Frag} {S : List Addr} {H : Hp}
theorem sv_inT : Sv2 K (rInT K) wInT := fun S H x y d e Q tr rx ry h => by
  unfold wInT at h
  split at h
  · rename_i ds
    exact ⟨_, _, rx.dp h.1.1.nd, RB.dp h.1.2.nd ry, h.1.1, h.1.2, h.2 _ H (Same.refl H) (.bl _)⟩
  · exact h.elim
theorem sv_notInT : Sv2 K (rNotInT K) wNotInT := fun S H x y d e Q tr rx ry h => by
  unfold wNotInT at h
  split at h
  · rename_i ds
    exact ⟨_, _, rx.dp h.1.1.nd, RB.dp h.1.2.nd ry, h.1.1, h.1.2, h.2 _ H (Same.refl H) (.bl _)⟩
  · exact h.elim
theorem KDs.len : ∀ {vs : List (Key × V)} {ds : List (Key × D)}, KDs K S H vs ds → vs.length = ds.length
  | _, _, .nil => rfl
  | _, _, .cons r t => by rw [List.length_cons, List.length_cons, KDs.len t]
theorem KDs.get : ∀ {vs : List (Key × V)} {ds : List (Key × D)}, KDs K S H vs ds → ∀ p ∈ vs, ∃ d, (p.1, d) ∈ ds ∧ R K S H p.2 d
  | _, _, .nil, p, h => nomatch h
  | _, _, .cons r t, p, h => by
    rcases List.mem_cons.mp h with rfl | h
    · exact ⟨_, List.mem_cons_self, r⟩
    · obtain ⟨d, h1, h2⟩ := KDs.get t p h
      exact ⟨d, List.mem_cons_of_mem _ h1, h2⟩
theorem dict_at {v : V} {kds : List (Key × D)} (r : RB K S H v (dictD kds)) (hn : kds ≠ []) : ∃ a ks, v = .ref a ∧ Rd H a (.dK ks) ∧ KDs K S H ks kds := by
  unfold dictD at r
  generalize e : (kds.map fun q => (kD q.1, q.2)) = es at r
  cases r with
  | dik h1 h3 => subst e; exact ⟨_, _, rfl, h1, KDs.of h3⟩
  | dit h1 h3 =>
    exfalso
    cases kds with
    | nil => exact hn rfl
    | cons q t =>
      rw [List.map_cons] at e
      subst e
      generalize e2 : kD q.1 = z at h3
      cases h3
      cases h : q.1 <;> rw [h] at e2 <;> cases e2
theorem sv_neK : Sv2 K rNeDR wNeK := fun S H x y d e Q tr rx ry ⟨kds, e1, e2, hn, hp, q⟩ => by
  subst e1
  subst e2
  obtain ⟨a, ks, rfl, h1, k1⟩ := dict_at rx hn
  obtain ⟨b, ls, rfl, h2, k2⟩ := dict_at ry hn
  refine ⟨a, b, ks, ls, rfl, rfl, h1, h2, by rw [k1.len, k2.len], fun p hp' => ?_, q _ H (Same.refl H) (.bl _)⟩
  obtain ⟨d, hm, rd⟩ := k1.get p hp'
  obtain ⟨hv, i, hi⟩ := hp _ hm
  have hi : d = .int i := hi
  subst hi
  obtain ⟨v, e3, rv⟩ := k2.val hv
  have int_v : ∀ {w : V}, R K S H w (.int i) → w = .int i := fun h => by cases h; rfl
  have e4 : p.2 = .int i := int_v rd
  have e5 : v = .int i := int_v rv
  rw [e4, e3, e5]
  exact ⟨rfl, rfl⟩
end
section
variable {X : Cx} {B : BI} {a b o e : Expr} {es : List Expr} {ta tb : ET} {apos cpos pos : Pos}
theorem d_inT (hK : B.K = X.K) (hu : X.A.units + 66 < cLine) (ha : DE X B a ta) (hb : DE X B b tb) (hm : behindInMarks .In b = false := by rfl) : DE X B (.Compare a [.In] [b] pos) (e2 wInT ta tb) := d_cmp (op_inT (by omega)) wInT_mo (hK ▸ sv_inT) ha hb hm
theorem d_notInT (hK : B.K = X.K) (hu : X.A.units + 66 < cLine) (ha : DE X B a ta) (hb : DE X B b tb) (hm : behindInMarks .NotIn b = false := by rfl) : DE X B (.Compare a [.NotIn] [b] pos) (e2 wNotInT ta tb) := d_cmp (op_notInT (by omega)) wNotInT_mo (hK ▸ sv_notInT) ha hb hm
theorem dt_inT (hK : B.K = X.K) (hu : X.A.units + 66 < cLine) (ha : DE X B a ta) (hb : DE X B b tb) (hm : behindInMarks .In b = false := by rfl) : DT X B (.Compare a [.In] [b] pos) (tB' (e2 wInT ta tb)) := d_tcmp (op_inT (by omega)) wInT_mo (hK ▸ sv_inT) ha hb hm
theorem dt_notInT (hK : B.K = X.K) (hu : X.A.units + 66 < cLine) (ha : DE X B a ta) (hb : DE X B b tb) (hm : behindInMarks .NotIn b = false := by rfl) : DT X B (.Compare a [.NotIn] [b] pos) (tB' (e2 wNotInT ta tb)) := d_tcmp (op_notInT (by omega)) wNotInT_mo (hK ▸ sv_notInT) ha hb hm
theorem dt_neK (hK : B.K = X.K) (hu : X.A.units + 66 < cLine) (ha : DE X B a ta) (hb : DE X B b tb) (hm : behindInMarks .NotEq b = false := by rfl) : DT X B (.Compare a [.NotEq] [b] pos) (tB' (e2 wNeK ta tb)) := d_tcmp (op_neDR (by omega)) wNeK_mo (hK ▸ sv_neK) ha hb hm
def wFirstT (ds : List D) (x : D) (q : D → Prop) : Prop := (eqOk x ∧ eqOk (.tuple ds)) ∧ ∃ (j : Nat) (d : D), ds[j]? = some d ∧ PyData.eqv d x = true ∧ (∀ (m : Nat) (d' : D), m < j → ds[m]? = some d' → PyData.eqv d' x = false) ∧ q (.int (j : Nat))
def eIdxT (ta tb : ET) : ET := fun ρ p => ta ρ fun o ρ1 => match o with
  | .v (.tuple ds) => tb ρ1 fun o' ρ2 => wD (o'.get ρ2) fun x => wFirstT ds x fun z => p (.v z) ρ2
  | _ => False
def tIdxT (K : PySem.W.Frag) (to te : TE) : TE := fun σ H Q => to σ H fun x H1 => (∃ a xs, x = .ref a ∧ (RdT H1 a xs ∨ KT' K a xs)) ∧ te σ H1 fun y H2 => rIndexT K x [y] H2 Q
theorem pe_idxT {to te : TE} (hu : X.A.units + 65 < cLine) (ho : PE X o to) (he : PE X e te) (hbase : attributeBase o "index" X.env (eval o X.env) = eval o X.env := by rfl)
    (hfew : ((backTo cpos (starEach (e :: []) X.env)).all (fun x => !x.1) && (backToKw cpos (keywordEach [] X.env)).all (fun x => x.1.isSome)
      && decide ((e :: []).length + ([] : List Keyword).length + (if ([] : List Keyword).isEmpty then 0 else 1) < 30)) = true := by rfl)
    (hline : (apos.endLine == cpos.line) = true := by rfl) (hs : starEach (e :: []) X.env = (false, eval e X.env) :: starEach [] X.env := by rfl) (hplain : (backTo cpos (starEach [] X.env)).any (·.1) = false := by rfl) :
    PE X (.Call (.Attribute o "index" apos) (e :: []) [] cpos) (tIdxT X.K to te) := by
  refine ⟨fun pins s σ H Q I h => wpAny_Call_method_late hbase hfew hline rfl (thn (ho.run pins s σ H _ I h) fun v s1 hv => ?_)⟩
  obtain ⟨x, H1, I1, r1, ⟨a, xs, ex, ht⟩, q1⟩ := hv
  subst ex
  cases r1
  obtain ⟨h1, h2⟩ := tup_plain I1 ht
  refine ⟨"tuple", _, PySem.F.plainAttrs_tuple, PySem.F.slot_tuple_index, PySem.F.type_tuple_index, h1, h2, ?_⟩
  have hA := (pa_cons he pa_nil hs).run cpos pins s1 σ H1 (fun ys H2 => rIndexT X.K (.ref a) ys H2 Q) I1 q1
  rw [hs] at hA ⊢
  refine Calls.callWith_builtin (by show (false || (backTo cpos (starEach [] X.env)).any (·.1)) = false; rw [hplain] <;> rfl) (Calls.evalArgs_plain ?_)
  exact thn hA fun us s2 ⟨vs, H2, I2, r2, q2⟩ => mt_indexT hu pins s2 σ H2 (.ref a) vs (.ref a) us Q I2 rfl r2 q2
theorem d_idxT (hK : B.K = X.K) (hu : X.A.units + 66 < cLine) (ho : DE X B o ta) (he : DE X B e tb) (hbase : attributeBase o "index" X.env (eval o X.env) = eval o X.env := by rfl)
    (hfew : ((backTo cpos (starEach (e :: []) X.env)).all (fun x => !x.1) && (backToKw cpos (keywordEach [] X.env)).all (fun x => x.1.isSome)
      && decide ((e :: []).length + ([] : List Keyword).length + (if ([] : List Keyword).isEmpty then 0 else 1) < 30)) = true := by rfl)
    (hline : (apos.endLine == cpos.line) = true := by rfl) (hs : starEach (e :: []) X.env = (false, eval e X.env) :: starEach [] X.env := by rfl) (hplain : (backTo cpos (starEach [] X.env)).any (·.1) = false := by rfl) :
    DE X B (.Call (.Attribute o "index" apos) (e :: []) [] cpos) (eIdxT ta tb) :=
  ⟨peOf (pe_idxT (by omega) ho.pe he.pe hbase hfew hline hs hplain) fun σ H Q ⟨S, ρ, g, q⟩ => ⟨S, ρ, g, ho.mo _ _ _ (fun o1 ρ1 q x S1 H1 k1 g1 h1 => by
    split at q
    · rename_i ds
      have h1 : R B.K S1 H1 x (.tuple ds) := h1
      have r0 := h1
      cases h1 with
      | tup hx rx lx =>
        rw [← hK]
        refine ⟨⟨_, _, rfl, hx.imp (·.2) id⟩, S1, ρ1, g1, he.mo _ _ _ (fun o2 ρ2 q y S2 H2 k2 g2 h2 => ?_) q⟩
        obtain ⟨d, ed, ⟨oe, ol⟩, j, z, e1, e2, e3, q⟩ := wD_inv q
        have r2 : R B.K S2 H2 _ (.tuple ds) := r0.kp k2
        exact ⟨_, y, d, ds, j, z, rfl, rfl, r2.dp ol.nd, (h2.get g2 ed).dp oe.nd, ol, oe, e1, e2, e3, q _ S2 H2 (k1.trans k2) g2 (.int _)⟩
    · exact q.elim) q⟩, fun ρ p p' h q => ho.mo _ _ _ (fun o1 ρ1 q => by
    split at q
    · exact he.mo _ _ _ (fun o2 ρ2 q => wD_mono (fun d ⟨a, j, z, b, c, e, f⟩ => ⟨a, j, z, b, c, e, h _ _ f⟩) q) q
    · exact q) q⟩
end
end DL

set_option maxHeartbeats 1000000
/-! DL31: zip of two, each a list or a tuple. -/
namespace DL
open PySem PySem.Spec PyProof.Rows L2
/-- a source: a list (true) or a tuple, and its iterator -/
def KIt (b : Bool) (h : Heap) (it l : Addr) (i : Nat) : Prop := match b with
  | true => h.IsListIter it l i
  | false => h.IsTupleIter it l i
def KSq (b : Bool) (h : Heap) (l : Addr) (xs : Array Value) : Prop := match b with
  | true => h.IsList l xs
  | false => h.IsTuple l xs
theorem KIt.ext {b : Bool} {h h' : Heap} {it l c : Addr} {i : Nat} (x : KIt b h it l i) (hs : Heap.ExtBut c h h') (n : it ≠ c) : KIt b h' it l i := by
  cases b
  · exact Heap.IsTupleIter.extBut x hs n
  · exact Heap.IsListIter.extBut x hs n
theorem KSq.ext {b : Bool} {h h' : Heap} {l c : Addr} {xs : Array Value} (x : KSq b h l xs) (hs : Heap.ExtBut c h h') (n : l ≠ c) : KSq b h' l xs := by
  cases b
  · exact Heap.IsTuple.extBut x hs n
  · exact Heap.IsList.extBut x hs n
theorem KIt.at {b : Bool} {h h' : Heap} {it l : Addr} {i : Nat} (x : KIt b h it l i) (e : ∀ o, h.get? it = some o → h'.get? it = some o) : KIt b h' it l i := by
  cases b
  · exact Heap.IsTupleIter.at x e
  · exact Heap.IsListIter.at x e
theorem KIt.lt {b : Bool} {h : Heap} {it l : Addr} {i : Nat} (x : KIt b h it l i) : it < h.objs.size := by
  cases b
  · obtain ⟨_, e, _⟩ := (x : h.IsTupleIter it l i); exact Heap.lt_size e
  · obtain ⟨_, e, _⟩ := (x : h.IsListIter it l i); exact Heap.lt_size e
theorem KIt.ob {b : Bool} {h : Heap} {it l : Addr} {i : Nat} (x : KIt b h it l i) : ∃ o vs, h.get? it = some o ∧ o.data = .fields vs := by
  cases b
  · obtain ⟨o, e, _, d⟩ := (x : h.IsTupleIter it l i); exact ⟨o, _, e, d⟩
  · obtain ⟨o, e, _, d⟩ := (x : h.IsListIter it l i); exact ⟨o, _, e, d⟩
section
variable {prog : Program} {w : World} {A : Around} {E : Value → Shared → Prop} {s : Shared}
theorem k_item {b : Bool} {it l : Addr} {i : Nat} {items : Array Value} {x : Value} {Q : Value → Shared → Prop} (hit : KIt b s.heap it l i) (hl : KSq b s.heap l items) (hx : items[i]? = some x)
    (hQ : ∀ h', KIt b h' it l (i + 1) → Heap.SameBut it s.heap h' → Q x { s with heap := h' }) : wpAny (model prog w) A (Builtin.SmallTypes.nextOf (.ref it)) Q E s := by
  cases b
  · exact RZ.nextOf_tuple_item hit hl hx hQ
  · exact wpAny_nextOf_list_item hit hl hx hQ
theorem k_end {b : Bool} {it l : Addr} {i : Nat} {items : Array Value} {Q : Value → Shared → Prop} (hh : A.handled = none) (hit : KIt b s.heap it l i) (hl : KSq b s.heap l items) (hx : items[i]? = none)
    (hE : ∀ h' e, Heap.ExtBut it s.heap h' → (∃ o, h'.get? e = some o ∧ o.cls = .type "StopIteration") → E (.ref e) { s with heap := h' }) : wpAny (model prog w) A (Builtin.SmallTypes.nextOf (.ref it)) Q E s := by
  cases b
  · exact RZ.nextOf_tuple_end hh hit hl hx hE
  · exact wpAny_nextOf_list_end hh hit hl hx hE
variable {c d : Bool}
theorem zipK_item {z TI TO i1 i2 l1 l2 : Addr} {k1 k2 : Nat} {xs ys : Array Value} {x y a b : Value} {Q : Value → Shared → Prop} (D : ZipApart z TI TO i1 i2 l1 l2)
    (hz : IsZip s.heap z TI TO .none) (hTI : IsPair s.heap TI (.ref i1) (.ref i2)) (hTO : IsPair s.heap TO a b)
    (h1 : KIt c s.heap i1 l1 k1) (h2 : KIt d s.heap i2 l2 k2) (hl1 : KSq c s.heap l1 xs) (hl2 : KSq d s.heap l2 ys) (hx : xs[k1]? = some x) (hy : ys[k2]? = some y)
    (hQ : ∀ h', IsZip h' z TI TO (rawInt s.heap.objs.size) → IsPair h' TO x y → KIt c h' i1 l1 (k1 + 1) → KIt d h' i2 l2 (k2 + 1) → IsPair h' s.heap.objs.size x y → h'.objs.size = s.heap.objs.size + 1 →
      (∀ q o, q ≠ z → q ≠ TO → q ≠ i1 → q ≠ i2 → s.heap.get? q = some o → h'.get? q = some o) → Q (.ref s.heap.objs.size) { s with heap := h' }) :
    wpAny (model prog w) A (Builtin.«zip.__next__» ⟨[.ref z], []⟩) (fun fin s' => ∃ v, fin = .done (.ret v) ∧ Q v s') E s := by
  show wpAny _ _ (field (.ref z) 2 >>= _) _ _ _
  refine wpAny_bind (wpAny_field hz rfl (x := .bool false) rfl ?_)
  show wpAny _ _ (field (.ref z) 3 >>= _) _ _ _
  refine wpAny_bind (wpAny_field hz rfl (x := .ref TI) rfl (wpAny_bind (wpAny_seqItems hTI rfl ?_)))
  show wpAny _ _ (Builtin.SmallTypes.ownedTupleIsFree (.ref z) >>= _) _ _ _
  refine wpAny_bind ?_
  unfold Builtin.SmallTypes.ownedTupleIsFree
  refine wpAny_bind (wpAny_field hz rfl (x := .none) rfl (wpAny_pure ?_))
  simp only [if_true]
  refine wpAny_bind (wpAny_rule (wpAny_bind (wpAny_field hz rfl (x := .ref TO) rfl (wpAny_bind (wpAny_setField_rec hz (by simp) fun g₁ hz₁ hs₁ => ?_)))))
  replace hz₁ : IsZip g₁ z TI TO .ellipsis := hz₁
  refine wpAny_bind ?_
  simp only [List.zipIdx_cons, List.zipIdx_nil, List.forIn_cons, List.forIn_nil]
  -- the first one's
  refine wpAny_bind (wpAny_bind (wpAny_onRaise ?_))
  show wpAny _ _ (Builtin.SmallTypes.nextOf (.ref i1) >>= _) _ _ _
  refine wpAny_bind (k_item (h1.ext hs₁.extBut D.i1z) (hl1.ext hs₁.extBut D.l1z) hx fun g₂ h1₂ hs₂ => wpAny_pure ?_)
  have t₂ : IsPair g₂ TO a b := hs₂.extBut _ _ D.TOi1 (hs₁.extBut _ _ D.TOz hTO)
  refine wpAny_bind (wpAny_seqItems t₂ rfl (wpAny_bind (wpAny_updateSeq_pair t₂ fun g₃ t₃ hs₃ => ?_)))
  replace t₃ : IsPair g₃ TO x b := t₃
  refine wpAny_bind (wpAny_letGo (wpAny_pure ?_))
  -- the other's
  refine wpAny_bind (wpAny_bind (wpAny_onRaise ?_))
  show wpAny _ _ (Builtin.SmallTypes.nextOf (.ref i2) >>= _) _ _ _
  refine wpAny_bind (k_item (((h2.ext hs₁.extBut D.i2z).ext hs₂.extBut D.i12.symm).ext hs₃.extBut D.TOi2.symm) (((hl2.ext hs₁.extBut D.l2z).ext hs₂.extBut D.l2i1).ext hs₃.extBut D.l2TO) hy fun g₄ h2₄ hs₄ => wpAny_pure ?_)
  have t₄ : IsPair g₄ TO x b := hs₄.extBut _ _ D.TOi2 t₃
  refine wpAny_bind (wpAny_seqItems t₄ rfl (wpAny_bind (wpAny_updateSeq_pair t₄ fun g₅ t₅ hs₅ => ?_)))
  replace t₅ : IsPair g₅ TO x y := t₅
  refine wpAny_bind (wpAny_letGo (wpAny_pure (wpAny_pure ?_)))
  -- the new pair
  refine wpAny_bind (wpAny_seqItems t₅ rfl (wpAny_bind (wpAny_newTuple ?_)))
  have hsz : g₅.objs.size = s.heap.objs.size := by rw [hs₅.1, hs₄.1, hs₃.1, hs₂.1, hs₁.1]
  have hz₅ : IsZip g₅ z TI TO .ellipsis := hs₅.extBut _ _ D.TOz.symm (hs₄.extBut _ _ D.i2z.symm (hs₃.extBut _ _ D.TOz.symm (hs₂.extBut _ _ D.i1z.symm hz₁)))
  have hk₅ : ∀ q o, q ≠ z → q ≠ TO → q ≠ i1 → q ≠ i2 → s.heap.get? q = some o → g₅.get? q = some o := fun q o c1 c2 c3 c4 e =>
    hs₅.extBut _ _ c2 (hs₄.extBut _ _ c4 (hs₃.extBut _ _ c2 (hs₂.extBut _ _ c3 (hs₁.extBut _ _ c1 e))))
  have h1₅ : KIt c g₅ i1 l1 (k1 + 1) := ((h1₂.ext hs₃.extBut D.TOi1.symm).ext hs₄.extBut D.i12).ext hs₅.extBut D.TOi1.symm
  have h2₅ : KIt d g₅ i2 l2 (k2 + 1) := h2₄.ext hs₅.extBut D.TOi2.symm
  have hzlt : z < g₅.objs.size := Heap.lt_size hz₅
  show wpAny _ _ (Builtin.SmallTypes.ownedTupleHandOut (.ref z) (.ref g₅.objs.size) >>= _) _ _ _
  refine wpAny_bind ?_
  unfold Builtin.SmallTypes.ownedTupleHandOut
  have hz₆ : IsZip (g₅.push { cls := .type "tuple", data := .seq #[x, y] }) z TI TO .ellipsis := Heap.get?_push_of_some _ hz₅
  refine wpAny_bind (wpAny_setField_rec hz₆ (by simp) fun g₇ hz₇ hs₇ => ?_)
  replace hz₇ : IsZip g₇ z TI TO (rawInt g₅.objs.size) := hz₇
  refine wpAny_setField_rec hz₇ (by simp) fun g₈ hz₈ hs₈ => ?_
  replace hz₈ : IsZip g₈ z TI TO (rawInt g₅.objs.size) := hz₈
  have up : ∀ q o, q ≠ z → g₅.get? q = some o → g₈.get? q = some o := fun q o c1 e => hs₈.extBut _ _ c1 (hs₇.extBut _ _ c1 (Heap.get?_push_of_some _ e))
  have hT₈ : IsPair g₈ g₅.objs.size x y := hs₈.extBut _ _ (Nat.ne_of_gt hzlt) (hs₇.extBut _ _ (Nat.ne_of_gt hzlt) (Heap.get?_push_size _ rfl))
  have hz8 : g₈.objs.size = g₅.objs.size + 1 := by rw [hs₈.1, hs₇.1, Heap.size_push]
  rw [hsz] at hz₈ hT₈ hz8
  refine wpAny_pure ⟨_, rfl, ?_⟩
  show Q (.ref g₅.objs.size) _
  rw [hsz]
  exact hQ g₈ hz₈ (up _ _ D.TOz t₅) (h1₅.at fun o e => up _ o D.i1z e) (h2₅.at fun o e => up _ o D.i2z e) hT₈ hz8 fun q o c1 c2 c3 c4 e => up q o c1 (hk₅ q o c1 c2 c3 c4 e)
theorem zipK_end {z TI TO i1 i2 l1 l2 : Addr} {k1 k2 : Nat} {xs ys : Array Value} {a b : Value} {Q : Fin → Shared → Prop} (hh : A.handled = none) (D : ZipApart z TI TO i1 i2 l1 l2)
    (hz : IsZip s.heap z TI TO .none) (hTI : IsPair s.heap TI (.ref i1) (.ref i2)) (hTO : IsPair s.heap TO a b)
    (h1 : KIt c s.heap i1 l1 k1) (h2 : KIt d s.heap i2 l2 k2) (hl1 : KSq c s.heap l1 xs) (hl2 : KSq d s.heap l2 ys) (hend : xs[k1]? = none ∨ ys[k2]? = none)
    (hE : ∀ h' e, (∀ q o, q ≠ z → q ≠ TO → q ≠ i1 → q ≠ i2 → s.heap.get? q = some o → h'.get? q = some o) → (∃ o, h'.get? e = some o ∧ o.cls = .type "StopIteration") → E (.ref e) { s with heap := h' }) :
    wpAny (model prog w) A (Builtin.«zip.__next__» ⟨[.ref z], []⟩) Q E s := by
  show wpAny _ _ (field (.ref z) 2 >>= _) _ _ _
  refine wpAny_bind (wpAny_field hz rfl (x := .bool false) rfl ?_)
  show wpAny _ _ (field (.ref z) 3 >>= _) _ _ _
  refine wpAny_bind (wpAny_field hz rfl (x := .ref TI) rfl (wpAny_bind (wpAny_seqItems hTI rfl ?_)))
  show wpAny _ _ (Builtin.SmallTypes.ownedTupleIsFree (.ref z) >>= _) _ _ _
  refine wpAny_bind ?_
  unfold Builtin.SmallTypes.ownedTupleIsFree
  refine wpAny_bind (wpAny_field hz rfl (x := .none) rfl (wpAny_pure ?_))
  simp only [if_true]
  refine wpAny_bind (wpAny_rule (wpAny_bind (wpAny_field hz rfl (x := .ref TO) rfl (wpAny_bind (wpAny_setField_rec hz (by simp) fun g₁ hz₁ hs₁ => ?_)))))
  replace hz₁ : IsZip g₁ z TI TO .ellipsis := hz₁
  refine wpAny_bind ?_
  simp only [List.zipIdx_cons, List.zipIdx_nil, List.forIn_cons, List.forIn_nil]
  refine wpAny_bind (wpAny_bind (wpAny_onRaise ?_))
  show wpAny _ _ (Builtin.SmallTypes.nextOf (.ref i1) >>= _) _ _ _
  cases hx : xs[k1]? with
  | none =>
    refine wpAny_bind (k_end hh (h1.ext hs₁.extBut D.i1z) (hl1.ext hs₁.extBut D.l1z) hx fun g₂ e hs₂ he => ?_)
    obtain ⟨oe, hoe, hce⟩ := he
    have hz₂ : IsZip g₂ z TI TO .ellipsis := hs₂ _ _ D.i1z.symm hz₁
    have hez : e ≠ z := fun q => by subst q; rw [hz₂] at hoe; cases hoe; simp at hce
    refine wpAny_setField_rec hz₂ (by simp) fun g₃ _ hs₃ => hE g₃ e (fun q o c1 _ c3 _ w => hs₃.extBut _ _ c1 (hs₂ _ _ c3 (hs₁.extBut _ _ c1 w))) ⟨oe, hs₃.extBut _ _ hez hoe, hce⟩
  | some x =>
    have hy : ys[k2]? = none := by rcases hend with h | h; rw [hx] at h; cases h; exact h
    refine wpAny_bind (k_item (h1.ext hs₁.extBut D.i1z) (hl1.ext hs₁.extBut D.l1z) hx fun g₂ h1₂ hs₂ => wpAny_pure ?_)
    have t₂ : IsPair g₂ TO a b := hs₂.extBut _ _ D.TOi1 (hs₁.extBut _ _ D.TOz hTO)
    refine wpAny_bind (wpAny_seqItems t₂ rfl (wpAny_bind (wpAny_updateSeq_pair t₂ fun g₃ t₃ hs₃ => ?_)))
    refine wpAny_bind (wpAny_letGo (wpAny_pure ?_))
    refine wpAny_bind (wpAny_bind (wpAny_onRaise ?_))
    show wpAny _ _ (Builtin.SmallTypes.nextOf (.ref i2) >>= _) _ _ _
    refine wpAny_bind (k_end hh (((h2.ext hs₁.extBut D.i2z).ext hs₂.extBut D.i12.symm).ext hs₃.extBut D.TOi2.symm) (((hl2.ext hs₁.extBut D.l2z).ext hs₂.extBut D.l2i1).ext hs₃.extBut D.l2TO) hy fun g₄ e hs₄ he => ?_)
    obtain ⟨oe, hoe, hce⟩ := he
    have hz₄ : IsZip g₄ z TI TO .ellipsis := hs₄ _ _ D.i2z.symm (hs₃.extBut _ _ D.TOz.symm (hs₂.extBut _ _ D.i1z.symm hz₁))
    have hez : e ≠ z := fun q => by subst q; rw [hz₄] at hoe; cases hoe; simp at hce
    refine wpAny_setField_rec hz₄ (by simp) fun g₅ _ hs₅ => hE g₅ e (fun q o c1 c2 c3 c4 w => hs₅.extBut _ _ c1 (hs₄ _ _ c4 (hs₃.extBut _ _ c2 (hs₂.extBut _ _ c3 (hs₁.extBut _ _ c1 w))))) ⟨oe, hs₅.extBut _ _ hez hoe, hce⟩
theorem pyNext_zipK_item {z TI TO i1 i2 l1 l2 : Addr} {k1 k2 : Nat} {xs ys : Array Value} {x y a b : Value} {Q : Option Value → Shared → Prop} (D : ZipApart z TI TO i1 i2 l1 l2)
    (hz : IsZip s.heap z TI TO .none) (hTI : IsPair s.heap TI (.ref i1) (.ref i2)) (hTO : IsPair s.heap TO a b)
    (h1 : KIt c s.heap i1 l1 k1) (h2 : KIt d s.heap i2 l2 k2) (hl1 : KSq c s.heap l1 xs) (hl2 : KSq d s.heap l2 ys) (hx : xs[k1]? = some x) (hy : ys[k2]? = some y)
    (hQ : ∀ h', IsZip h' z TI TO (rawInt s.heap.objs.size) → IsPair h' TO x y → KIt c h' i1 l1 (k1 + 1) → KIt d h' i2 l2 (k2 + 1) → IsPair h' s.heap.objs.size x y → h'.objs.size = s.heap.objs.size + 1 →
      (∀ q o, q ≠ z → q ≠ TO → q ≠ i1 → q ≠ i2 → s.heap.get? q = some o → h'.get? q = some o) → Q (some (.ref s.heap.objs.size)) { s with heap := h' }) :
    wpAny (model prog w) A (pyNext (.ref z)) Q E s := by
  have hT : s.TypeIs (.ref z) "zip" := ⟨_, hz, rfl⟩
  unfold pyNext
  exact wpAny_bind (wpAny_attempt (wpAny_callSpecial?_slot (name := Str.ofString "__next__") hT PySem.F.slot_zip_next
    (wpAny_call_entry PySem.F.slot_zip_next hT PySem.F.entry_zip_next
      (zipK_item D hz hTI hTO h1 h2 hl1 hl2 hx hy fun h' a1 a2 a3 a4 a5 a6 a7 => wpAny_pure (hQ h' a1 a2 a3 a4 a5 a6 a7)) (PySem.F.args_zip_next_1 _))))
theorem pyNext_zipK_end {z TI TO i1 i2 l1 l2 : Addr} {k1 k2 : Nat} {xs ys : Array Value} {a b : Value} {Q : Option Value → Shared → Prop} (hh : A.handled = none) (D : ZipApart z TI TO i1 i2 l1 l2)
    (hz : IsZip s.heap z TI TO .none) (hTI : IsPair s.heap TI (.ref i1) (.ref i2)) (hTO : IsPair s.heap TO a b)
    (h1 : KIt c s.heap i1 l1 k1) (h2 : KIt d s.heap i2 l2 k2) (hl1 : KSq c s.heap l1 xs) (hl2 : KSq d s.heap l2 ys) (hend : xs[k1]? = none ∨ ys[k2]? = none)
    (hQ : ∀ h', (∀ q o, q ≠ z → q ≠ TO → q ≠ i1 → q ≠ i2 → s.heap.get? q = some o → h'.get? q = some o) → Q none { s with heap := h' }) : wpAny (model prog w) A (pyNext (.ref z)) Q E s := by
  have hT : s.TypeIs (.ref z) "zip" := ⟨_, hz, rfl⟩
  unfold pyNext
  refine wpAny_bind (wpAny_attempt (wpAny_callSpecial?_slot (name := Str.ofString "__next__") hT PySem.F.slot_zip_next
    (wpAny_call_entry PySem.F.slot_zip_next hT PySem.F.entry_zip_next (zipK_end hh D hz hTI hTO h1 h2 hl1 hl2 hend fun h' e hk he => ?_) (PySem.F.args_zip_next_1 _))))
  obtain ⟨o, ho, hc⟩ := he
  refine wpAny_bind (wpAny_isInstance (T := "StopIteration") (b := true) ⟨o, ho, hc⟩ isSubtype_stop ?_)
  exact wpAny_pure (hQ _ hk)
end
def kOb (b : Bool) (l : Addr) : Obj := match b with
  | true => { cls := .type "list_iterator", data := .fields #[.ref l, .int 0 0] }
  | false => { cls := .type "tuple_iterator", data := .fields #[.ref l, .int 0 0] }
abbrev zK1 (c : Bool) (h : Heap) (l1 : Addr) : Heap := h.push (kOb c l1)
abbrev zK2 (c d : Bool) (h : Heap) (l1 l2 : Addr) : Heap := (zK1 c h l1).push (kOb d l2)
abbrev zK3 (c d : Bool) (h : Heap) (l1 l2 : Addr) : Heap := (zK2 c d h l1 l2).push { cls := .type "tuple", data := .seq #[.ref h.objs.size, .ref (zK1 c h l1).objs.size] }
abbrev zK4 (c d : Bool) (h : Heap) (l1 l2 : Addr) : Heap := (zK3 c d h l1 l2).push { cls := .type "tuple", data := .seq #[.none, .none] }
abbrev zK5 (c d : Bool) (h : Heap) (l1 l2 : Addr) : Heap := (zK4 c d h l1 l2).push { cls := .type "zip", data := .fields #[.none, .bool false, .bool false, .ref (zK2 c d h l1 l2).objs.size, .ref (zK3 c d h l1 l2).objs.size] }
theorem meets_zipLT (l1 l2 : Addr) (xs ys : Array Value) :
    Meets (Builtin.«zip.__new__» ⟨[.type "zip", .ref l1, .ref l2], []⟩) (fun _ R s => s.heap.IsList l1 xs ∧ s.heap.IsTuple l2 ys ∧
      R (.ok (.ret (.ref (zK4 true false s.heap l1 l2).objs.size))) { s with heap := zK5 true false s.heap l1 l2 }) :=
  .of_wp fun prog w A R s h => by
    obtain ⟨hp, g, d, tk, os⟩ := s; obtain ⟨hl1, hl2, h⟩ := h
    have hsub := sub_zip
    have hL1 : Heap.IsList (Shared.heap ⟨hp, g, d, tk, os⟩) l1 xs := hl1
    have hL2 : Heap.IsTuple (Shared.heap ⟨hp.push { cls := .type "list_iterator", data := .fields #[.ref l1, .int 0 0] }, g, d, tk, os⟩) l2 ys := Heap.IsTuple.push hl2 _
    wp_walk using wpAny_pyIter_list hL1, wpAny_pyIter_tuple hL2
    exact ⟨_, rfl, h⟩
section
variable {prog : Program} {w : World} {A : Around} {E : Value → Shared → Prop} {s : Shared}
theorem call_zipLT {l1 l2 : Addr} {xs ys : Array Value} {Q : Value → Shared → Prop} (hl1 : s.heap.IsList l1 xs) (hl2 : s.heap.IsTuple l2 ys)
    (h : ∀ h', IsZip h' (s.heap.objs.size + 4) (s.heap.objs.size + 2) (s.heap.objs.size + 3) .none → IsPair h' (s.heap.objs.size + 2) (.ref s.heap.objs.size) (.ref (s.heap.objs.size + 1)) →
      IsPair h' (s.heap.objs.size + 3) .none .none → KIt true h' s.heap.objs.size l1 0 → KIt false h' (s.heap.objs.size + 1) l2 0 → h'.objs.size = s.heap.objs.size + 5 →
      (∀ c o, s.heap.get? c = some o → h'.get? c = some o) → Q (.ref (s.heap.objs.size + 4)) { s with heap := h' }) :
    wpAny (model prog w) A (call (.type "zip") [.ref l1, .ref l2]) Q E s := by
  refine callType_new PySem.F.called_zip (by decide) (PySem.F.typeCall_zip_2 _ _) (PySem.F.newCall_zip_2 _ _) (fun obj => PySem.F.args_object_init_3 obj _ _) PySem.F.entry_zip_new
    (meets_zipLT l1 l2 xs ys) ⟨hl1, hl2, ?_⟩
  have z1 : (zK1 true s.heap l1).objs.size = s.heap.objs.size + 1 := Heap.size_push ..
  have z2 : (zK2 true false s.heap l1 l2).objs.size = s.heap.objs.size + 2 := by rw [Heap.size_push, z1]
  have z3 : (zK3 true false s.heap l1 l2).objs.size = s.heap.objs.size + 3 := by rw [Heap.size_push, z2]
  have z4 : (zK4 true false s.heap l1 l2).objs.size = s.heap.objs.size + 4 := by rw [Heap.size_push, z3]
  have z5 : (zK5 true false s.heap l1 l2).objs.size = s.heap.objs.size + 5 := by rw [Heap.size_push, z4]
  have g5 : (zK5 true false s.heap l1 l2).get? (zK4 true false s.heap l1 l2).objs.size = some _ := Heap.get?_push_size _ rfl
  have g4 : (zK5 true false s.heap l1 l2).get? (zK3 true false s.heap l1 l2).objs.size = some _ := Heap.get?_push_of_some _ (Heap.get?_push_size _ rfl)
  have g3 : (zK5 true false s.heap l1 l2).get? (zK2 true false s.heap l1 l2).objs.size = some _ := Heap.get?_push_of_some _ (Heap.get?_push_of_some _ (Heap.get?_push_size _ rfl))
  have g2 : (zK5 true false s.heap l1 l2).get? (zK1 true s.heap l1).objs.size = some _ := Heap.get?_push_of_some _ (Heap.get?_push_of_some _ (Heap.get?_push_of_some _ (Heap.get?_push_size _ rfl)))
  have g1 : (zK5 true false s.heap l1 l2).get? s.heap.objs.size = some _ := Heap.get?_push_of_some _ (Heap.get?_push_of_some _ (Heap.get?_push_of_some _ (Heap.get?_push_of_some _ (Heap.get?_push_size _ rfl))))
  show _ ∧ _
  rw [z2, z3, z4] at g5
  rw [z1, z2] at g3
  rw [z3] at g4
  rw [z1] at g2
  rw [z4]
  exact ⟨⟨_, g5, rfl⟩, h _ g5 g3 g4 ⟨_, g1, rfl, rfl⟩ ⟨_, g2, rfl, rfl⟩ z5 fun c o x =>
    Heap.get?_push_of_some _ (Heap.get?_push_of_some _ (Heap.get?_push_of_some _ (Heap.get?_push_of_some _ (Heap.get?_push_of_some _ x))))⟩
end
/-! ### as a walk: the pairs are new, tracked with their object -/
def KQ (K : PySem.W.Frag) (b : Bool) (H : Hp) (a : Addr) (xs : List V) : Prop := match b with
  | true => SqL K H a xs
  | false => SqT K H a xs
def ItzK (K : PySem.W.Frag) (c d : Bool) (a b : Addr) : It :=
  ⟨fun i H => ∃ (xs ys : List V) (x y : V), KQ K c H a xs ∧ KQ K d H b ys ∧ xs[i]? = some x ∧ ys[i]? = some y,
    fun i H v H' => ∃ T x y, v = .ref T ∧ H T = none ∧ (∃ o : Obj, o.dict = none ∧ H' = upd H T (.frz o (.tup [x, y]))) ∧ (∀ xs, KQ K c H a xs → xs[i]? = some x) ∧ ∀ ys, KQ K d H b ys → ys[i]? = some y,
    fun i H => ∃ xs ys : List V, KQ K c H a xs ∧ KQ K d H b ys ∧ (xs.length ≤ i ∨ ys.length ≤ i)⟩
theorem kq_at {X : Cx} {pins : List (Addr × Obj)} {σ : L2.St} {H : Hp} {s : Shared} {a : Addr} {b : Bool} {xs : List V} (I : Inv X pins σ H s) (h : KQ X.K b H a xs) : ∃ its, Vals xs its ∧ KSq b s.heap a its.toArray := by
  cases b
  · obtain ⟨its, r, p, _⟩ := I.tuple h; exact ⟨its, r, p⟩
  · obtain ⟨its, r, p, _⟩ := I.list h; exact ⟨its, r, p.isList⟩
theorem kq_inj {X : Cx} {pins : List (Addr × Obj)} {σ : L2.St} {H : Hp} {s : Shared} {a : Addr} {b : Bool} {xs ys : List V} (I : Inv X pins σ H s) (h : KQ X.K b H a xs) (h' : KQ X.K b H a ys) : xs = ys := by
  cases b
  · exact I.tuple_inj h h'
  · exact I.list_inj h h'
theorem turn_zipK {P : Program} {w : World} {K : PySem.W.Frag} {elts : List Expr} {kk : Nat} {tpos : Pos} {c d : Bool} {a b z TI TO i1 i2 : Addr} (D : ZipApart z TI TO i1 i2 a b) :
    Turn P w K (.Tuple elts kk tpos) (ItzK K c d a b) [z, TI, TO, i1, i2] z (fun i h => IsZip h z TI TO .none ∧ IsPair h TI (.ref i1) (.ref i2) ∧ (∃ x y, IsPair h TO x y) ∧ KIt c h i1 a i ∧ KIt d h i2 b i) where
  mem := by simp
  obj := fun i h st q hq => by
    obtain ⟨hz, hTI, ⟨x, y, hTO⟩, h1, h2⟩ := st
    obtain ⟨o1, v1, e1, d1⟩ := h1.ob
    obtain ⟨o2, v2, e2, d2⟩ := h2.ob
    have e' : q = z ∨ q = TI ∨ q = TO ∨ q = i1 ∨ q = i2 := by simpa using hq
    rcases e' with e | e | e | e | e
    · rw [e]; exact ⟨_, hz, fun v q => nomatch q⟩
    · rw [e]; exact ⟨_, hTI, fun v q => nomatch q⟩
    · rw [e]; exact ⟨_, hTO, fun v q => nomatch q⟩
    · rw [e]; exact ⟨o1, e1, fun v q => by rw [d1] at q; cases q⟩
    · rw [e]; exact ⟨o2, e2, fun v q => by rw [d2] at q; cases q⟩
  keep := fun i h h' st k => by
    obtain ⟨hz, hTI, ⟨x, y, hTO⟩, h1, h2⟩ := st
    exact ⟨k z (by simp) _ hz, k TI (by simp) _ hTI, ⟨x, y, k TO (by simp) _ hTO⟩, h1.at fun o q => k i1 (by simp) o q, h2.at fun o q => k i2 (by simp) o q⟩
  item := by
    intro X hP hw hK hc i pins s σ H E I hf st hg
    subst hP hw hK
    obtain ⟨hz, hTI, ⟨x0, y0, hTO⟩, h1, h2⟩ := st
    obtain ⟨xs, ys, x, y, hqx, hqy, hx, hy⟩ := hg
    obtain ⟨its, rv, p⟩ := kq_at I hqx
    obtain ⟨its2, rv2, p2⟩ := kq_at I hqy
    obtain ⟨u, hu, ru⟩ := rv.get hx
    obtain ⟨u2, hu2, ru2⟩ := rv2.get hy
    have hzl : z < s.heap.objs.size := Heap.lt_size hz
    refine pyNext_zipK_item D hz hTI hTO h1 h2 p p2 (x := u) (y := u2) (by simpa using hu) (by simpa using hu2) fun h' z' TO' h1' h2' hT hsz hk => ?_
    refine ⟨_, rfl, wpAny_letOwnedTupleGo_zip (s := { s with heap := h' }) z' fun h'' z'' sb => ?_⟩
    have hT2 : h''.get? s.heap.objs.size = some { cls := .type "tuple", data := .seq #[u, u2] } := (sb.2 _ (Nat.ne_of_gt hzl)).trans hT
    generalize hob : ({ cls := .type "tuple", data := .seq #[u, u2] } : Obj) = ob at hT2
    have hdn : ob.dict = none := by rw [← hob]
    have new : ObjOk X.prog X.w (upd H s.heap.objs.size (.frz ob (.tup [x, y]))) h'' s.heap.objs.size (.frz ob (.tup [x, y])) :=
      ⟨hT2, by show 2 ≤ sizeLine; decide, [u, u2], .cons ru (.cons ru2 .nil), ⟨ob, hT2, by rw [← hob], _, by rw [← hob]⟩⟩
    have I1 : Inv X pins σ (upd H s.heap.objs.size (.frz ob (.tup [x, y]))) { s with heap := h'' } :=
      I.turnedNew (t' := s.toks) (ch := [z, TI, TO, i1, i2]) (fun q o hb w => (sb.2 q (fun q' => hb (by simp [q']))).trans (hk q o (fun q' => hb (by simp [q'])) (fun q' => hb (by simp [q'])) (fun q' => hb (by simp [q'])) (fun q' => hb (by simp [q'])) w)) hf (Nat.le_refl _) new
    refine ⟨.ref s.heap.objs.size, _, I1, rfl, ⟨_, x, y, rfl, I.hok.fresh (Nat.le_refl _), ⟨ob, hdn, rfl⟩, fun l hl => by rw [kq_inj I hl hqx]; exact hx, fun l hl => by rw [kq_inj I hl hqy]; exact hy⟩, ⟨z'', ?_, ⟨u, u2, ?_⟩, ?_, ?_⟩, fun q hqm => ?_⟩
    · exact (sb.2 _ D.TIz).trans (hk _ _ D.TIz D.TITO D.TIi1 D.TIi2 hTI)
    · exact (sb.2 _ D.TOz).trans TO'
    · exact h1'.at fun o q => (sb.2 _ D.i1z).trans q
    · exact h2'.at fun o q => (sb.2 _ D.i2z).trans q
    · have hlt : q < s.heap.objs.size := by
        have e' : q = z ∨ q = TI ∨ q = TO ∨ q = i1 ∨ q = i2 := by simpa using hqm
        rcases e' with e | e | e | e | e
        · rw [e]; exact hzl
        · rw [e]; exact Heap.lt_size hTI
        · rw [e]; exact Heap.lt_size hTO
        · rw [e]; exact h1.lt
        · rw [e]; exact h2.lt
      rw [upd_ne (Nat.ne_of_lt hlt)]
      exact (hf q hqm).1
  done := by
    intro X hP hw hK hc i pins s σ H E I hf st hg
    subst hP hw hK
    obtain ⟨hz, hTI, ⟨x0, y0, hTO⟩, h1, h2⟩ := st
    obtain ⟨xs, ys, hqx, hqy, hend⟩ := hg
    obtain ⟨its, rv, p⟩ := kq_at I hqx
    obtain ⟨its2, rv2, p2⟩ := kq_at I hqy
    have l1 := rv.length
    have l2 := rv2.length
    have he : its.toArray[i]? = none ∨ its2.toArray[i]? = none := by
      rcases hend with q | q
      · exact .inl (by simp; omega)
      · exact .inr (by simp; omega)
    exact pyNext_zipK_end (I.ok.hd hc) D hz hTI hTO h1 h2 p p2 he fun h' hk => ⟨rfl, I.turnedL (t' := s.toks) (ch := [z, TI, TO, i1, i2]) (fun q o hb w =>
      hk q o (fun q' => hb (by simp [q'])) (fun q' => hb (by simp [q'])) (fun q' => hb (by simp [q'])) (fun q' => hb (by simp [q'])) w) hf⟩
  self := fun A i s Q E st h => wpAny_pyIter_zip st.1 h
def iZipV (K : PySem.W.Frag) (ta : TA) : TI := fun σ H R => ta σ H fun vs H1 => ∃ a b, vs = [.ref a, .ref b] ∧ (((∃ xs ys, SqL K H1 a xs ∧ SqL K H1 b ys) ∧ R (ItzK K true true a b) H1) ∨ ((∃ xs ys, SqL K H1 a xs ∧ SqT K H1 b ys) ∧ R (ItzK K true false a b) H1))
theorem pi_zipV {X : Cx} {e e2 : Expr} {ta : TA} {p pos tpos : Pos} {elts : List Expr} {kk : Nat} (hg : Gl X "zip") (hm : X.mg "zip" = none) (ha : PA X [e, e2] ta)
    (hs : starEach [e, e2] X.env = (false, eval e X.env) :: starEach [e2] X.env := by rfl) (hpl : (backTo pos (starEach [e2] X.env)).any (·.1) = false := by rfl) :
    PI X (.Tuple elts kk tpos) (.Call (.Name "zip" p) [e, e2] [] pos) (iZipV X.K ta) := by
  refine ⟨fun pins s σ H R I h => ?_⟩
  refine Call_ (ld_blt I hg hm PyProof.Rows.boot_zip (PyProof.Rows.callWith_type1 (thn (ha.run pos pins s σ H _ I h) fun us s1 hv => ?_) hs hpl))
  obtain ⟨vs, H1, I1, r1, a, b, ex, q1⟩ := hv
  subst ex
  cases r1 with
  | cons r rr =>
    cases rr with
    | cons r' rr =>
      cases rr
      cases r
      cases r'
      have fresh5 : ∀ c, c ∈ [s1.heap.objs.size + 4, s1.heap.objs.size + 2, s1.heap.objs.size + 3, s1.heap.objs.size, s1.heap.objs.size + 1] → FpOk X pins H1 c := fun c hcm => by
        have e' : c = s1.heap.objs.size + 4 ∨ c = s1.heap.objs.size + 2 ∨ c = s1.heap.objs.size + 3 ∨ c = s1.heap.objs.size ∨ c = s1.heap.objs.size + 1 := by simpa using hcm
        have hle : s1.heap.objs.size ≤ c := by rcases e' with z | z | z | z | z <;> omega
        exact I1.fpOk hle (I1.hok.fresh hle)
      rcases q1 with ⟨⟨xs, ys, hqx, hqy⟩, q⟩ | ⟨⟨xs, ys, hqx, hqy⟩, q⟩
      · obtain ⟨its, rv, p1, _⟩ := I1.list hqx
        obtain ⟨its2, rv2, p2, _⟩ := I1.list hqy
        refine call_zip_2 p1.isList p2.isList fun h' hz hTI hTO h1 h2 hsz hk => wpAny_pyIter_zip hz ?_
        exact ⟨s1.heap.objs.size + 4, [s1.heap.objs.size + 4, s1.heap.objs.size + 2, s1.heap.objs.size + 3, s1.heap.objs.size, s1.heap.objs.size + 1], _, _, H1, rfl, I1.kept (t' := s1.toks) hk, turn_zipK (c := true) (d := true) (PySem.W.ktu_apart s1.heap.objs.size a b p1.lt p2.lt), ⟨hz, hTI, ⟨_, _, hTO⟩, h1, h2⟩, fresh5, q⟩
      · obtain ⟨its, rv, p1, _⟩ := I1.list hqx
        obtain ⟨its2, rv2, p2, _⟩ := I1.tuple hqy
        have lb : b < s1.heap.objs.size := by obtain ⟨_, e, _⟩ := id p2; exact Heap.lt_size e
        refine call_zipLT p1.isList (show s1.heap.IsTuple b its2.toArray from p2) fun h' hz hTI hTO h1 h2 hsz hk => wpAny_pyIter_zip hz ?_
        exact ⟨s1.heap.objs.size + 4, [s1.heap.objs.size + 4, s1.heap.objs.size + 2, s1.heap.objs.size + 3, s1.heap.objs.size, s1.heap.objs.size + 1], _, _, H1, rfl, I1.kept (t' := s1.toks) hk, turn_zipK (c := true) (d := false) (PySem.W.ktu_apart s1.heap.objs.size a b p1.lt lb), ⟨hz, hTI, ⟨_, _, hTO⟩, h1, h2⟩, fresh5, q⟩
def zipD : List D → List D → List D
  | x :: xs, y :: ys => .tuple [x, y] :: zipD xs ys
  | _, _ => []
theorem zipD_length : ∀ xs ys : List D, (zipD xs ys).length = min xs.length ys.length
  | [], ys => by simp [zipD]
  | _ :: _, [] => by simp [zipD]
  | x :: xs, y :: ys => by
    have := zipD_length xs ys
    show (zipD xs ys).length + 1 = min (xs.length + 1) (ys.length + 1)
    rw [this]; omega
theorem zipD_get : ∀ (xs ys : List D) (i : Nat) (x y : D), xs[i]? = some x → ys[i]? = some y → (zipD xs ys)[i]? = some (.tuple [x, y])
  | a :: xs, b :: ys, 0, x, y, h1, h2 => by
    have h1 : a = x := Option.some.inj h1
    have h2 : b = y := Option.some.inj h2
    subst h1; subst h2; rfl
  | a :: xs, b :: ys, i + 1, x, y, h1, h2 => zipD_get xs ys i x y h1 h2
theorem pair_new2 {K : PySem.W.Frag} {S' : List Addr} {H' : Hp} {T : Addr} {x y : V} {d e : D} {o : Obj} (hd : o.dict = none) (tr : ∀ a ∈ S', ∃ o, H' a = some o) (nT : H' T = none) (r : R K S' H' x d) (r2 : R K S' H' y e) :
    Same H' (upd H' T (.frz o (.tup [x, y]))) ∧ R K S' (upd H' T (.frz o (.tup [x, y]))) (.ref T) (.tuple [d, e]) := by
  have sm : Same H' (upd H' T (.frz o (.tup [x, y]))) := same_new nT
  exact ⟨sm, .tup (.inl ⟨notS tr nT, NewT.at hd⟩) (.cons (r.kp (Kp.same sm)) (.one (r2.kp (Kp.same sm)))) (sz (by show 2 ≤ 1000; omega))⟩
theorem itz_at {K : PySem.W.Frag} {S : List Addr} {H : Hp} {a b : Addr} {c d : Bool} {xs ys : List V} {ds es : List D} (ha : ∀ S' H', Kp S H S' H' → KQ K c H' a xs) (hb : ∀ S' H', Kp S H S' H' → KQ K d H' b ys) (r : RA K S H xs ds) (r2 : RA K S H ys es)
    (hl : ds.length ≤ sizeLine) : ItAt K S H (ItzK K c d a b) (zipD ds es) := ⟨by rw [zipD_length]; omega, fun i S' H' k tr => by
  rw [zipD_length]
  have l1 := r.length
  have l2 := r2.length
  refine ⟨fun hi => ?_, fun hi => ⟨xs, ys, ha S' H' k, hb S' H' k, by omega⟩⟩
  have hix : i < xs.length := by omega
  have hiy : i < ys.length := by omega
  refine ⟨⟨xs, ys, xs[i], ys[i], ha S' H' k, hb S' H' k, List.getElem?_eq_getElem hix, List.getElem?_eq_getElem hiy⟩, fun x H2 hy => ?_⟩
  obtain ⟨T, x', y', rfl, nT, ⟨o, hd, rfl⟩, hx, hy⟩ := hy
  obtain ⟨d1, e1, rd⟩ := r.getV (hx xs (ha S' H' k))
  obtain ⟨d2, e2, rd2⟩ := r2.getV (hy ys (hb S' H' k))
  obtain ⟨s1, s2⟩ := pair_new2 hd tr nT (rd.kp k) (rd2.kp k)
  exact ⟨s1, _, zipD_get _ _ _ _ _ e1 e2, s2⟩⟩
def iZp (ta tb : ET) : IT := fun ρ p => ta ρ fun o ρ1 => tb ρ1 fun o' ρ2 => match o, o' with
  | .v (.list ds), .v (.list es) => p (zipD ds es) ρ2
  | .v (.list ds), .v (.tuple es) => p (zipD ds es) ρ2
  | _, _ => False
theorem di_zip {X : Cx} {B : BI} {e e2 : Expr} {ta tb : ET} {p pos tpos : Pos} {elts : List Expr} {kk : Nat} (hK : B.K = X.K) (hg : Gl X "zip") (hm : X.mg "zip" = none) (he : DE X B e ta) (he2 : DE X B e2 tb)
    (n1 : starEach [e, e2] X.env = (false, eval e X.env) :: starEach [e2] X.env := by rfl) (n2 : starEach [e2] X.env = (false, eval e2 X.env) :: starEach [] X.env := by rfl) (hpl : (backTo pos (starEach [e2] X.env)).any (·.1) = false := by rfl) :
    DI X B (.Tuple elts kk tpos) (.Call (.Name "zip" p) [e, e2] [] pos) (iZp ta tb) :=
  ⟨piOf (pi_zipV hg hm (pa_cons he.pe (pa_cons he2.pe pa_nil n2) n1) n1 hpl) fun σ H Q ⟨S, ρ, g, q⟩ => ⟨S, ρ, g, he.mo _ _ _ (fun o ρ1 q x S1 H1 k1 g1 h1 => ⟨S1, ρ1, g1, he2.mo _ _ _ (fun o' ρ2 q y S2 H2 k2 g2 h2 => by
    have h1' := h1.kp k2
    split at q
    · rename_i ds es _w
      cases (show R B.K S2 H2 x (.list ds) from h1') with
      | lst hx rx lx =>
        cases (show R B.K S2 H2 y (.list es) from h2) with
        | lst hy ry ly =>
          rw [← hK]
          exact ⟨_, _, rfl, .inl ⟨⟨_, _, LX.sq (hx.imp (·.2) id), LX.sq (hy.imp (·.2) id)⟩, q _ S2 H2 (k1.trans k2) g2 (itz_at (c := true) (d := true) (fun S' H' k => LX.sq (hx.imp (fun h => (k.rd h.1 h.2).2) id)) (fun S' H' k => LX.sq (hy.imp (fun h => (k.rd h.1 h.2).2) id)) rx ry lx)⟩⟩
    · rename_i ds es _w
      cases (show R B.K S2 H2 x (.list ds) from h1') with
      | lst hx rx lx =>
        cases (show R B.K S2 H2 y (.tuple es) from h2) with
        | tup hy ry ly =>
          rw [← hK]
          exact ⟨_, _, rfl, .inr ⟨⟨_, _, LX.sq (hx.imp (·.2) id), tq hy⟩, q _ S2 H2 (k1.trans k2) g2 (itz_at (c := true) (d := false) (fun S' H' k => LX.sq (hx.imp (fun h => (k.rd h.1 h.2).2) id)) (fun S' H' k => hy.imp (fun h => (k.rdT h.1 h.2).2.rd) KT'.t) rx ry lx)⟩⟩
    · exact q.elim) q⟩) q⟩, fun ρ p p' h q => he.mo _ _ _ (fun o ρ1 q => he2.mo _ _ _ (fun o' ρ2 q => by
    split at q
    · exact h _ _ q
    · exact h _ _ q
    · exact q) q) q⟩
end DL

/-! DL32: for k, v in d.items(), d a dict of one's own that is let go there. -/
namespace DL
open PySem PySem.Spec PyProof.Rows L2
/-- the pairs, each a new tuple, tracked with its object -/
def ItiF (d : Addr) (o : Obj) (kvs : List (Key × V)) : It :=
  ⟨fun i H => H d = some (.frz o (.dK kvs)) ∧ i < kvs.length, fun i H x H' => ∃ T k v, kvs[i]? = some (k, v) ∧ x = .ref T ∧ H T = none ∧ ∃ ob : Obj, ob.dict = none ∧ H' = upd H T (.frz ob (.tup [kV k, v])), fun i H => H d = some (.frz o (.dK kvs)) ∧ kvs.length ≤ i⟩
section
variable {P : Program} {w : World} {K : PySem.W.Frag} {d : Addr} {o : Obj} {es : Array DictEntry} {ep : Nat}
theorem turn_itemsF {kvs : List (Key × V)} {elts : List Expr} {kk : Nat} {tpos : Pos} (it : Addr) (hod : o.data = .dict es ep) :
    Turn P w K (.Tuple elts kk tpos) (ItiF d o kvs) [it] it (fun i h => ∃ ok ov, IsItemIter h it d i kvs.length ep ok ov) where
  mem := by simp
  obj := fun i h st b hb => by
    have e : b = it := by simpa using hb
    subst e
    obtain ⟨ok, ov, e⟩ := st
    exact ⟨_, e, fun v z => nomatch z⟩
  keep := fun i h h' st k => let ⟨ok, ov, e⟩ := st; ⟨ok, ov, k it (by simp) _ e⟩
  item := by
    intro X hP hw hK hc i pins s σ H E I hf st hg
    subst hP hw hK
    obtain ⟨hd, hi⟩ := hg
    obtain ⟨hs, hgd, hx, es', ep', vs, hdt, hsz, kv, hm⟩ := I.frzK hd
    obtain ⟨rfl, rfl⟩ := dict_ep hod hdt
    obtain ⟨⟨k, v⟩, hkv⟩ : ∃ p, kvs[i]? = some p := ⟨kvs[i], List.getElem?_eq_getElem hi⟩
    obtain ⟨u, hu, ru⟩ := kv_get kv hkv
    have hl : kvs.length = vs.length := Paired.length kv
    obtain ⟨ok, ov, he⟩ := st
    rw [hl] at he
    have hlt : it < s.heap.objs.size := Heap.lt_size he
    refine wpAny_pyNext_items_item he hm hu fun key h' hkey ho hT hz hk => ?_
    refine ⟨_, rfl, wpAny_letOwnedTupleGo_items (s := { s with heap := h' }) ho fun h'' he' sb => ?_⟩
    have hT2 : h''.get? s.heap.objs.size = some { cls := .type "tuple", data := .seq #[key, u] } := (sb.2 _ (Nat.ne_of_gt hlt)).trans hT
    generalize hob : ({ cls := .type "tuple", data := .seq #[key, u] } : Obj) = ob at hT2
    have hdn : ob.dict = none := by rw [← hob]
    have new : ObjOk X.prog X.w (upd H s.heap.objs.size (.frz ob (.tup [kV k, v]))) h'' s.heap.objs.size (.frz ob (.tup [kV k, v])) :=
      ⟨hT2, by show 2 ≤ sizeLine; decide, [key, u], .cons (relV_key (show keyIs k key = true from hkey)) (.cons ru .nil), ⟨ob, hT2, by rw [← hob], _, by rw [← hob]⟩⟩
    have I1 : Inv X pins σ (upd H s.heap.objs.size (.frz ob (.tup [kV k, v]))) { s with heap := h'' } :=
      I.turnedNew (t' := s.toks) (ch := [it]) (fun b ob hb e => (sb.2 b (by simpa using hb)).trans (hk b ob (by simpa using hb) e)) hf (Nat.le_refl _) new
    refine ⟨.ref s.heap.objs.size, _, I1, rfl, ⟨_, k, v, hkv, rfl, I.hok.fresh (Nat.le_refl _), ob, hdn, rfl⟩, ⟨key, u, ?_⟩, fun b hb => ?_⟩
    · rw [hl]; exact he'
    · have e : b = it := by simpa using hb
      rw [e, upd_ne (Nat.ne_of_lt hlt)]
      exact (hf it (by simp)).1
  done := by
    intro X hP hw hK hc i pins s σ H E I hf st hg
    subst hP hw hK
    obtain ⟨hd, hi⟩ := hg
    obtain ⟨f0, f1, f2, f3, f4, f5⟩ := hf it (by simp)
    obtain ⟨hs, hgd, hx, es', ep', vs, hdt, hsz, kv, hm⟩ := I.frzK hd
    obtain ⟨rfl, rfl⟩ := dict_ep hod hdt
    have hl : kvs.length = vs.length := Paired.length kv
    obtain ⟨ok, ov, he⟩ := st
    rw [hl] at he
    exact wpAny_pyNext_items_end (I.ok.hd hc) he hm (List.getElem?_eq_none (by omega)) fun h' eb => ⟨rfl, I.turned (t' := s.toks) (fun b ob hb e => eb b ob hb e) f0 f1 f3 f4 f5⟩
  self := fun A i s Q E st h => let ⟨_, _, e⟩ := st; PySem.W.kcp_self e h
end
section
variable {X : Cx} {tg e : Expr} {td : TE} {apos cpos : Pos}
def iItemsF (td : TE) : TI := fun σ H R => td σ H fun x H1 => ∃ d o kvs, x = .ref d ∧ H1 d = some (.frz o (.dK kvs)) ∧ R (ItiF d o kvs) H1
theorem pi_itemsF {elts : List Expr} {kk : Nat} {tpos : Pos} (he : PE X e td) (hbase : attributeBase e "items" X.env (eval e X.env) = eval e X.env := by rfl) (hline : (apos.endLine == cpos.line) = true := by rfl) :
    PI X (.Tuple elts kk tpos) (.Call (.Attribute e "items" apos) [] [] cpos) (iItemsF td) := by
  refine ⟨fun pins s σ H R I h => ?_⟩
  refine wpAny_Call_method (T := "dict") (id := "dict.items") hbase rfl hline PySem.F.plainAttrs_dict PySem.F.slot_dict_items PySem.F.type_dict_items (thn (he.run pins s σ H _ I h) fun u s1 hv => ?_)
  obtain ⟨x, H1, I1, rx, d, o, kvs, ex, hd, q⟩ := hv
  subst ex
  obtain rfl : u = Value.ref d := rx
  obtain ⟨hs, hgd, hx, es, ep, vs, hdt, hsz, kv, hm⟩ := I1.frzK hd
  have hl : kvs.length = vs.length := Paired.length kv
  refine ⟨hm.dictOf.typeIs, hm.dictOf.mapOf.noDict, ?_⟩
  have I2 : Inv X pins σ H1 { s1 with heap := s1.heap.push { cls := .type "dict_items", data := .fields #[.ref d] } } := I1.kept (t' := s1.toks) fun b ob q => Heap.get?_push_of_some _ q
  have fin : wpAny (model X.prog X.w) X.A (pyIter (.ref s1.heap.objs.size)) (PIE X pins σ (.Tuple elts kk tpos) R) X.xe { s1 with heap := s1.heap.push { cls := .type "dict_items", data := .fields #[.ref d] } } := by
    refine wpAny_pyIter_items (d := d) (knd := mixKind X.prog X.w) ⟨_, Heap.get?_push_size _ rfl, rfl, rfl⟩ (hm.push _) (pi_one (tk := s1.toks) I2 _ (turn_itemsF _ hdt) ⟨.none, .none, ?_⟩ q)
    rw [hl]
    exact Heap.get?_push_size _ rfl
  show wpAny _ _ (callWith cpos (.builtin "dict.items") [.ref d] [] []) _ X.xe s1
  exact method_meetsIn PySem.F.slot_dict_items PySem.F.entry_dict_items rfl (PySem.evalArgs_none ⟨rfl, hm.dictOf.typeIs, PySem.F.args_dict_items_1 _, _, meets_dict_items (mixKind X.prog X.w) d hs, ⟨vs, hm.dictOf⟩, fin⟩)
/-- locked ahead of the walk, for good -/
def lockI (ti : TI) : TI := fun σ H R => ∃ d u, H d = some u ∧ Mut (some u) ∧ ∀ od, ti σ (upd H d (.frz od u)) R
theorem pi_lock {ti : TI} (h : PI X tg e ti) : PI X tg e (lockI ti) := ⟨fun pins s σ H R I ⟨d, u, hd, mu, hw⟩ => by
  obtain ⟨od, I1⟩ := I.lock hd mu
  exact h.run pins s σ _ R I1 (hw od)⟩
end
def itemsD : List (Key × D) → List D := fun kvs => kvs.map fun q => .tuple [kD q.1, q.2]
section
variable {X : Cx} {B : BI} {S : List Addr} {σ : L2.St} {H : Hp} {ρ : Env} {i : Nat}
theorem frzD_sr {kvs : List (Key × D)} (g : SR B S σ H ρ) (hi : ρ[i]? = some (.own true (.dic kvs))) (hz : kvs.length ≤ sizeLine) : ∃ a vs, σ[i]? = some (some (.ref a)) ∧ H a = some (.dK vs) ∧ ∀ od : Obj, ∃ S', Kp S H S' (upd H a (.frz od (.dK vs))) ∧ SR B S' σ (upd H a (.frz od (.dK vs))) (ρ.set i (.d (dictD kvs))) ∧
    ItAt B.K S' (upd H a (.frz od (.dK vs))) (ItiF a od vs) (itemsD kvs) := by
  obtain ⟨fps, h1, h2⟩ := g.own
  obtain ⟨v, e1, w, m1, g4⟩ := h1 i true _ hi
  obtain ⟨a, vs, rfl, hf, e2, kd⟩ := own_dic_inv w
  have h0 : B.H0 a = none := by
    rcases g4 with ⟨_, g4⟩ | ⟨z, _⟩
    · exact g4 a (by rw [hf]; exact List.mem_singleton.mpr rfl)
    · cases z
  have ma : a ∈ S ∧ ∀ p ∈ B.fr, p.1 ≠ a := m1 a (by rw [hf]; exact List.mem_singleton.mpr rfl)
  have il : i < ρ.length := by
    by_cases q : i < ρ.length
    · exact q
    · rw [List.getElem?_eq_none (by omega)] at hi; cases hi
  refine ⟨a, vs, e1, e2, fun od => ?_⟩
  let S' := S.filter fun x => !decide (x = a)
  have sub : ∀ x ∈ S', x ∈ S := fun x h => (List.mem_filter.mp h).1
  have no : a ∉ S' := fun m => by
    have := (List.mem_filter.mp m).2
    rw [decide_eq_true rfl] at this; cases this
  have yes : ∀ x, x ∈ S → x ≠ a → x ∈ S' := fun x h n => List.mem_filter.mpr ⟨h, by rw [decide_eq_false n]; rfl⟩
  have ne : ∀ x, x ≠ a → upd H a (.frz od (.dK vs)) x = H x := fun x n => upd_ne n
  have k : Kp S H S' (upd H a (.frz od (.dK vs))) := fun x o' n e => ⟨fun m => n (sub x m), by rw [ne x fun q => n (q ▸ ma.1)]; exact e⟩
  have kd' : KDs B.K S' (upd H a (.frz od (.dK vs))) vs kvs := kd.kp k
  have rd : Rd (upd H a (.frz od (.dK vs))) a (.dK vs) := .inr ⟨od, upd_same⟩
  have oth : ∀ (j : Nat) (f : Bool) (o' : O), (ρ.set i (.d (dictD kvs)))[j]? = some (.own f o') → j ≠ i ∧ ρ[j]? = some (.own f o') := fun j f o' e => by
    by_cases c : j = i
    · subst c; rw [List.getElem?_set_self il] at e; cases e
    · rw [List.getElem?_set_ne (fun e => c e.symm)] at e; exact ⟨c, e⟩
  have apart : ∀ (j : Nat) (f : Bool) (o' : O), j ≠ i → ρ[j]? = some (.own f o') → ∀ x ∈ fps j, x ≠ a := fun j f o' c e x hx q => by
    subst q
    exact h2 j i f o' true _ c e hi x hx (by rw [hf]; exact List.mem_singleton.mpr rfl)
  refine ⟨S', k, ?_, ?_⟩
  · exact {
      len := by rw [List.length_set]; exact g.len
      dat := fun j d' e => by
        by_cases c : j = i
        · subst c
          rw [List.getElem?_set_self il] at e
          cases e
          exact ⟨_, e1, .dik no rd kd'.rk⟩
        · rw [List.getElem?_set_ne (fun e => c e.symm)] at e
          obtain ⟨u, a1, a2⟩ := g.dat j d' e
          exact ⟨u, a1, a2.kp k⟩
      own := ⟨fps, fun j f o' e => by
        obtain ⟨c, e⟩ := oth j f o' e
        obtain ⟨u, a1, a2, a3, a4⟩ := h1 j f o' e
        refine ⟨u, a1, a2.kp k fun x hx => ne x (apart j f o' c e x hx), fun x hx => ⟨yes x (a3 x hx).1 (apart j f o' c e x hx), (a3 x hx).2⟩, a4⟩, fun j l f o1 f' o2 n ej el => by
        obtain ⟨cj, ej⟩ := oth j f o1 ej
        obtain ⟨cl, el⟩ := oth l f' o2 el
        exact h2 j l f o1 f' o2 n ej el⟩
      keep := fun x o hx e => by
        rw [ne x fun q => by rw [q, h0] at e; cases e]
        exact g.keep x o hx e
      trk := fun x h => by
        rw [ne x fun q => no (q ▸ h)]
        exact g.trk x (sub x h)
      sub := fun x h => yes x (g.sub x h) fun m => by
        obtain ⟨u, hu⟩ := g.there x h
        rw [m, h0] at hu; cases hu
      there := g.there
      fsub := g.fsub
      pin := fun p hp => ⟨by rw [ne p.1 (ma.2 p hp)]; exact (g.pin p hp).1, yes p.1 (g.pin p hp).2 (ma.2 p hp)⟩ }
  · have hl : (itemsD kvs).length = vs.length := by
      unfold itemsD
      rw [List.length_map, kd.length]
    refine ⟨by unfold itemsD; rw [List.length_map]; exact hz, fun j S2 H2 k2 tr => ?_⟩
    have hd2 : H2 a = some (.frz od (.dK vs)) := (k2 a _ no upd_same).2
    rw [hl]
    refine ⟨fun hj => ⟨⟨hd2, hj⟩, fun x H3 hy => ?_⟩, fun hj => ⟨hd2, hj⟩⟩
    obtain ⟨T, key, v, ek, rfl, nT, ob, hdn, rfl⟩ := hy
    have kd2 := kd'.kp k2
    have : ∀ {vs : List (Key × V)} {ds : List (Key × D)}, KDs B.K S2 H2 vs ds → ∀ {j : Nat} {key : Key} {v : V}, vs[j]? = some (key, v) → ∃ d, ds[j]? = some (key, d) ∧ R B.K S2 H2 v d := by
      intro vs ds h
      induction h with
      | nil => intro j key v e; cases e
      | cons r t ih =>
        intro j key v e
        cases j with
        | zero => cases e; exact ⟨_, rfl, r⟩
        | succ j => exact ih e
    obtain ⟨d, ed, rv⟩ := this kd2 ek
    have rk : R B.K S2 H2 (kV key) (kD key) := by cases key <;> constructor
    obtain ⟨s1, s2⟩ := pair_new2 hdn tr nT rk rv
    exact ⟨s1, _, by unfold itemsD; rw [List.getElem?_map, ed]; rfl, s2⟩
def iItm (i : Nat) : IT := fun ρ p => match ρ[i]? with
  | some (.own true (.dic kvs)) => kvs.length ≤ sizeLine ∧ p (itemsD kvs) (ρ.set i (.d (dictD kvs)))
  | _ => False
theorem di_items {x : Str} {p apos cpos tpos : Pos} {elts : List Expr} {kk : Nat} (i : Nat) (hN : X.N[i]? = some x := by rfl) (hv : Vis X.env.scope x := by first | exact Or.inl rfl | exact Or.inr (Or.inl rfl) | exact Or.inr (Or.inr rfl)) (hd : (x == ("__debug__" : Str)) = false := by decide) (hcd : (x == ("__classdict__" : Str)) = false := by decide)
    (hbase : attributeBase (.Name x p) "items" X.env (eval (.Name x p) X.env) = eval (.Name x p) X.env := by rfl) (hline : (apos.endLine == cpos.line) = true := by rfl) :
    DI X B (.Tuple elts kk tpos) (.Call (.Attribute (.Name x p) "items" apos) [] [] cpos) (iItm i) :=
  ⟨piOf (pi_lock (pi_itemsF (pe_var hN hv hd hcd) hbase hline)) fun σ H Q ⟨S, ρ, g, q⟩ => by
    unfold iItm at q
    split at q
    · rename_i kvs e
      obtain ⟨a, vs, e1, e2, h⟩ := frzD_sr g e q.1
      refine ⟨a, .dK vs, e2, trivial, fun od => ?_⟩
      obtain ⟨S', k, g', it⟩ := h od
      exact ⟨.ref a, e1, a, od, vs, rfl, upd_same, q.2 _ S' _ k g' it⟩
    · exact q.elim, fun ρ p p' h q => by
    unfold iItm at *
    split at q
    · rename_i kvs e
      exact ⟨q.1, h _ _ q.2⟩
    · exact q.elim⟩
end
end DL

/-! FG: words of letters that fall out, rings: plain mathematics. -/
namespace FG
open PySem PySem.Spec PyProof.Rows

/-- a letter is put behind; with its undone one it falls out -/
def sr (f : List Int) (x : Int) : List Int := if f.getLast? = some (-x) then f.dropLast else f ++ [x]
def low (ns : List Int) : List Int := ns.foldl sr []
def undone (w : List Int) : List Int := w.reverse.map fun x => -x
def Red (w : List Int) : Prop := ∀ u x v, w = u ++ x :: -x :: v → False
def nz (w : List Int) : Prop := ∀ x ∈ w, x ≠ 0

theorem red_nil : Red [] := fun u x v h => by cases u <;> cases h
theorem red_one (y : Int) : Red [y] := fun u x v h => by
  cases u with
  | nil => cases h
  | cons a u => cases u <;> cases h
theorem red_left {a b : List Int} (h : Red (a ++ b)) : Red a := fun u x v e => h u x (v ++ b) (by rw [e]; simp)
theorem red_right {a b : List Int} (h : Red (a ++ b)) : Red b := fun u x v e => h (a ++ u) x v (by rw [e]; simp)
theorem red_join {a b : List Int} (ha : Red a) (hb : Red b) (h : ∀ x, a.getLast? = some x → b.head? = some (-x) → False) : Red (a ++ b) := fun u x v e => by
  rcases List.append_eq_append_iff.mp e with ⟨c, h1, h2⟩ | ⟨c, h1, h2⟩
  · -- u = a ++ c
    exact hb c x v h2
  · -- a = u ++ c, x :: -x :: v = c ++ b
    cases c with
    | nil => exact hb [] x v h2.symm
    | cons y c =>
      have e1 : x = y := by injection h2
      have e2 : -x :: v = c ++ b := by injection h2
      subst e1
      cases c with
      | nil => exact h x (by rw [h1]; simp) (by rw [List.nil_append] at e2; rw [← e2]; rfl)
      | cons z c =>
        have e3 : -x = z := by injection e2
        have e4 : v = c ++ b := by injection e2
        exact ha u x c (by rw [h1, ← e3])
theorem red_sr {f : List Int} (h : Red f) (x : Int) : Red (sr f x) := by
  unfold sr
  split
  · intro u y v e
    have hne : f ≠ [] := fun hf => by rw [hf] at e; cases u <;> cases e
    have this := List.dropLast_concat_getLast hne
    generalize f.getLast hne = z at this
    exact h u y (v ++ [z]) (by rw [← this, e]; simp)
  · rename_i n
    refine red_join h (red_one x) fun y h1 h2 => n ?_
    have e : x = -y := by simpa using h2
    rw [h1, e, Int.neg_neg]
theorem red_foldl : ∀ (ns : List Int) {f : List Int}, Red f → Red (ns.foldl sr f)
  | [], f, h => h
  | n :: r, f, h => red_foldl r (red_sr h n)
theorem red_low (ns : List Int) : Red (low ns) := red_foldl ns red_nil
theorem sr_back {f : List Int} (h : Red f) (x : Int) : sr (sr f x) (-x) = f := by
  unfold sr
  by_cases c : f.getLast? = some (-x)
  · rw [if_pos c]
    have hne : f ≠ [] := fun e => by rw [e] at c; cases c
    have hl : f.getLast hne = -x := by rw [List.getLast?_eq_some_getLast hne] at c; exact Option.some.inj c
    have e := List.dropLast_concat_getLast hne
    rw [hl] at e
    rw [if_neg, e]
    intro q
    have hne2 : f.dropLast ≠ [] := fun z => by rw [z] at q; cases q
    have hl2 : f.dropLast.getLast hne2 = x := by rw [List.getLast?_eq_some_getLast hne2, Int.neg_neg] at q; exact Option.some.inj q
    have e2 := List.dropLast_concat_getLast hne2
    rw [hl2] at e2
    exact h f.dropLast.dropLast x [] (by rw [← e, ← e2]; simp)
  · rw [if_neg c, List.getLast?_concat, if_pos (by rw [Int.neg_neg]), List.dropLast_concat]
theorem low_snoc (ns : List Int) (x : Int) : low (ns ++ [x]) = sr (low ns) x := by unfold low; rw [List.foldl_append]; rfl
/-- what has fallen out may fall out first -/
theorem fold_low {f : List Int} (hf : Red f) : ∀ ns : List Int, (low ns).foldl sr f = ns.foldl sr f := by
  have key : ∀ k (ns : List Int), ns.length = k → (low ns).foldl sr f = ns.foldl sr f := by
    intro k
    induction k with
    | zero => intro ns h; rw [List.eq_nil_of_length_eq_zero h]; rfl
    | succ k ih =>
      intro ns h
      have hne : ns ≠ [] := fun e => by rw [e] at h; cases h
      have e := List.dropLast_concat_getLast hne
      generalize ns.getLast hne = x at e
      have hl : ns.dropLast.length = k := by rw [List.length_dropLast, h]; rfl
      have IH := ih _ hl
      rw [← e, low_snoc, List.foldl_append]
      show _ = sr (ns.dropLast.foldl sr f) x
      rw [← IH]
      generalize low ns.dropLast = g
      unfold sr
      by_cases c : g.getLast? = some (-x)
      · rw [if_pos c]
        have hg : g ≠ [] := fun z => by rw [z] at c; cases c
        have hgl : g.getLast hg = -x := by rw [List.getLast?_eq_some_getLast hg] at c; exact Option.some.inj c
        have eg := List.dropLast_concat_getLast hg
        rw [hgl] at eg
        have : g.foldl sr f = sr (g.dropLast.foldl sr f) (-x) := by
          conv => lhs; rw [← eg]
          rw [List.foldl_append]; rfl
        have b := sr_back (red_foldl g.dropLast hf) (-x)
        rw [Int.neg_neg, ← this] at b
        exact b.symm
      · rw [if_neg c, List.foldl_append]; rfl
  exact fun ns => key _ ns rfl
theorem fold_red : ∀ (w : List Int) {f : List Int}, Red (f ++ w) → w.foldl sr f = f ++ w
  | [], f, _ => by simp
  | x :: r, f, h => by
    have e : sr f x = f ++ [x] := by
      unfold sr
      rw [if_neg]
      intro c
      have hne : f ≠ [] := fun z => by rw [z] at c; cases c
      have hl : f.getLast hne = -x := by rw [List.getLast?_eq_some_getLast hne] at c; exact Option.some.inj c
      have e := List.dropLast_concat_getLast hne
      rw [hl] at e
      exact h f.dropLast (-x) r (by rw [Int.neg_neg, List.append_cons f.dropLast, e])
    show r.foldl sr (sr f x) = _
    rw [e, fold_red r (by rw [← List.append_cons]; exact h), ← List.append_cons]
theorem low_red {w : List Int} (h : Red w) : low w = w := fold_red w (f := []) h
theorem low_low (ns : List Int) : low (low ns) = low ns := low_red (red_low ns)
theorem low_app (a b : List Int) : low (a ++ b) = b.foldl sr (low a) := by unfold low; rw [List.foldl_append]
theorem low_left (a b : List Int) : low (low a ++ b) = low (a ++ b) := by rw [low_app, low_app, low_low]
theorem low_right (a b : List Int) : low (a ++ low b) = low (a ++ b) := by rw [low_app, low_app, fold_low (red_low a)]
theorem low_mid (a b c : List Int) : low (a ++ low b ++ c) = low (a ++ b ++ c) := by rw [← low_left (a ++ low b) c, low_right, low_left]
theorem sr_sub {f : List Int} {x y : Int} (h : y ∈ sr f x) : y ∈ f ∨ y = x := by
  unfold sr at h
  split at h
  · exact .inl (List.dropLast_subset f h)
  · simpa using h
theorem fold_sub : ∀ (ns : List Int) {f : List Int} {y : Int}, y ∈ ns.foldl sr f → y ∈ f ∨ y ∈ ns
  | [], f, y, h => .inl h
  | n :: r, f, y, h => by
    rcases fold_sub r h with h | h
    · rcases sr_sub h with h | h
      · exact .inl h
      · exact .inr (by rw [h]; exact List.mem_cons_self)
    · exact .inr (List.mem_cons_of_mem _ h)
theorem low_sub {ns : List Int} {y : Int} (h : y ∈ low ns) : y ∈ ns := (fold_sub ns h).elim (fun h => by cases h) id
theorem sr_len (f : List Int) (x : Int) : (sr f x).length ≤ f.length + 1 ∧ ((sr f x).length = f.length + 1 → sr f x = f ++ [x]) := by
  unfold sr
  split
  · rw [List.length_dropLast]; exact ⟨by omega, fun h => by omega⟩
  · exact ⟨by simp, fun _ => rfl⟩
theorem fold_len : ∀ (ns f : List Int), (ns.foldl sr f).length ≤ f.length + ns.length ∧ ((ns.foldl sr f).length = f.length + ns.length → ns.foldl sr f = f ++ ns)
  | [], f => ⟨by simp, fun _ => by simp⟩
  | n :: r, f => by
    obtain ⟨h1, h2⟩ := fold_len r (sr f n)
    obtain ⟨h3, h4⟩ := sr_len f n
    refine ⟨by simp only [List.foldl_cons, List.length_cons]; omega, fun h => ?_⟩
    simp only [List.foldl_cons, List.length_cons] at h ⊢
    have e := h4 (by omega)
    rw [h2 (by omega), e]; simp
theorem low_len (ns : List Int) : (low ns).length ≤ ns.length := by have := (fold_len ns []).1; simpa [low] using this
theorem low_len_eq {ns : List Int} (h : (low ns).length = ns.length) : low ns = ns := by have := (fold_len ns []).2 (by simpa [low] using h); simpa [low] using this

/-! undone words -/
theorem undone_app (a b : List Int) : undone (a ++ b) = undone b ++ undone a := by simp [undone]
theorem undone_cons (x : Int) (r : List Int) : undone (x :: r) = undone r ++ [-x] := by simp [undone]
theorem undone_undone (w : List Int) : undone (undone w) = w := by
  unfold undone
  rw [← List.map_reverse, List.reverse_reverse, List.map_map]
  have : ((fun x : Int => -x) ∘ fun x => -x) = id := by funext x; simp
  rw [this, List.map_id]
theorem undone_len (w : List Int) : (undone w).length = w.length := by simp [undone]
theorem undone_nil : undone [] = [] := rfl
theorem undone_mem {w : List Int} {x : Int} (h : x ∈ undone w) : -x ∈ w := by
  obtain ⟨y, hy, rfl⟩ := List.mem_map.mp h
  rw [Int.neg_neg]; exact List.mem_reverse.mp hy
theorem red_undone {w : List Int} (h : Red w) : Red (undone w) := fun u x v e => by
  have := congrArg undone e
  rw [undone_undone, undone_app, undone_cons, undone_cons, Int.neg_neg] at this
  exact h (undone v) x (undone u) (by rw [this]; simp)
theorem nz_undone {w : List Int} (h : nz w) : nz (undone w) := fun x hx e => h (-x) (undone_mem hx) (by omega)

/-! ends cancelled -/
/-- the ends cancel -/
def Canc (w : List Int) : Prop := ∃ x m, w = x :: (m ++ [-x])
def cancB (w : List Int) : Bool := decide (1 < w.length) && decide (w.head? = w.getLast?.map fun x => -x)
theorem cancB_iff {w : List Int} : cancB w = true ↔ Canc w := by
  unfold cancB
  rw [Bool.and_eq_true, decide_eq_true_eq, decide_eq_true_eq]
  constructor
  · rintro ⟨h1, h2⟩
    cases w with
    | nil => cases h1
    | cons x r =>
      have hr : r ≠ [] := fun e => by rw [e] at h1; exact absurd h1 (by simp)
      have e := List.dropLast_concat_getLast hr
      refine ⟨x, r.dropLast, ?_⟩
      have hx : (x :: r).getLast? = some (r.getLast hr) := by
        rw [List.getLast?_cons, List.getLast?_eq_some_getLast hr]; rfl
      rw [hx] at h2
      have h3 : x = -(r.getLast hr) := by simpa using h2
      rw [show -x = r.getLast hr by omega, e]
  · rintro ⟨x, m, rfl⟩
    refine ⟨by simp, ?_⟩
    rw [show (x :: (m ++ [-x])).getLast? = some (-x) by rw [← List.cons_append, List.getLast?_concat]]
    simp
def core (w : List Int) : List Int := if h : cancB w = true then core w.tail.dropLast else w
termination_by w.length
decreasing_by
  obtain ⟨x, m, rfl⟩ := cancB_iff.mp h
  simp
  omega
def ahead (w : List Int) : List Int := if h : cancB w = true then w.headD 0 :: ahead w.tail.dropLast else []
termination_by w.length
decreasing_by
  obtain ⟨x, m, rfl⟩ := cancB_iff.mp h
  simp
  omega
theorem core_step (x : Int) (m : List Int) : core (x :: (m ++ [-x])) = core m := by
  rw [core, dif_pos (cancB_iff.mpr ⟨x, m, rfl⟩)]
  simp
theorem core_stop {w : List Int} (h : ¬ Canc w) : core w = w := by
  rw [core, dif_neg (fun c => h (cancB_iff.mp c))]
theorem ahead_step (x : Int) (m : List Int) : ahead (x :: (m ++ [-x])) = x :: ahead m := by
  rw [ahead, dif_pos (cancB_iff.mpr ⟨x, m, rfl⟩)]
  simp
theorem ahead_stop {w : List Int} (h : ¬ Canc w) : ahead w = [] := by
  rw [ahead, dif_neg (fun c => h (cancB_iff.mp c))]
theorem core_ind {P : List Int → Prop} (h1 : ∀ x m, P m → P (x :: (m ++ [-x]))) (h2 : ∀ w, ¬ Canc w → P w) (w : List Int) : P w := by
  have key : ∀ k (w : List Int), w.length ≤ k → P w := by
    intro k
    induction k with
    | zero =>
      intro w h
      exact h2 w fun ⟨x, m, e⟩ => by rw [e] at h; simp at h
    | succ k ih =>
      intro w h
      by_cases c : Canc w
      · obtain ⟨x, m, rfl⟩ := c
        exact h1 x m (ih m (by simp at h; omega))
      · exact h2 w c
  exact key _ w (Nat.le_refl _)
theorem core_whole : ∀ w : List Int, w = ahead w ++ core w ++ undone (ahead w) := by
  refine core_ind (fun x m ih => ?_) fun w h => ?_
  · rw [core_step, ahead_step, undone_cons]
    conv => lhs; rw [ih]
    simp
  · rw [core_stop h, ahead_stop h]; simp [undone]
theorem core_not : ∀ w : List Int, ¬ Canc (core w) := by
  refine core_ind (fun x m ih => ?_) fun w h => ?_
  · rw [core_step]; exact ih
  · rw [core_stop h]; exact h
theorem core_red {w : List Int} (h : Red w) : Red (core w) := by
  rw [core_whole w] at h
  exact red_right (red_left h)
theorem core_sub {w : List Int} {x : Int} (h : x ∈ core w) : x ∈ w := by
  rw [core_whole w]; simp [h]
theorem core_ne {w : List Int} : Red w → w ≠ [] → core w ≠ [] := by
  refine core_ind (P := fun w => Red w → w ≠ [] → core w ≠ []) (fun x m ih hr _ => ?_) (fun w h _ hn => by rw [core_stop h]; exact hn) w
  rw [core_step]
  refine ih (red_left (b := [-x]) (red_right (a := [x]) hr)) fun e => ?_
  rw [e] at hr
  exact hr [] x [] rfl
theorem core_len (w : List Int) : (core w).length ≤ w.length := by
  have := congrArg List.length (core_whole w)
  simp only [List.length_append] at this; omega
theorem core_len_eq {w : List Int} (h : (core w).length = w.length) : core w = w := by
  have e := congrArg List.length (core_whole w)
  simp only [List.length_append, undone_len] at e
  have : ahead w = [] := List.eq_nil_of_length_eq_zero (by omega)
  have h2 := core_whole w
  rw [this] at h2
  simp [undone] at h2
  exact h2.symm
theorem core_undone : ∀ w : List Int, core (undone w) = undone (core w) := by
  refine core_ind (fun x m ih => ?_) fun w h => ?_
  · rw [core_step, ← ih, undone_cons, undone_app]
    show core ([- -x] ++ undone m ++ [-x]) = _
    rw [Int.neg_neg]
    exact core_step x (undone m)
  · rw [core_stop h]
    refine core_stop fun ⟨x, m, e⟩ => h ⟨x, undone m, ?_⟩
    have := congrArg undone e
    rw [undone_undone, undone_cons, undone_app] at this
    rw [this]
    show [- -x] ++ undone m ++ [-x] = _
    rw [Int.neg_neg]; rfl

/-! turnings -/
def rot (w : List Int) (k : Nat) : List Int := w.drop k ++ w.take k
def IsRot (a b : List Int) : Prop := ∃ u v, a = u ++ v ∧ b = v ++ u
theorem IsRot.refl (a : List Int) : IsRot a a := ⟨[], a, rfl, by simp⟩
theorem IsRot.symm {a b : List Int} : IsRot a b → IsRot b a := fun ⟨u, v, h1, h2⟩ => ⟨v, u, h2, h1⟩
theorem IsRot.trans {a b c : List Int} : IsRot a b → IsRot b c → IsRot a c := by
  rintro ⟨u, v, rfl, rfl⟩ ⟨p, q, h1, rfl⟩
  rcases List.append_eq_append_iff.mp h1 with ⟨e, h2, h3⟩ | ⟨e, h2, h3⟩
  · exact ⟨e, q ++ v, by rw [h3]; simp, by rw [h2]; simp⟩
  · exact ⟨u ++ p, e, by rw [h2]; simp, by rw [h3]; simp⟩
theorem isRot_rot (w : List Int) (k : Nat) : IsRot w (rot w k) := ⟨w.take k, w.drop k, (List.take_append_drop k w).symm, rfl⟩
theorem IsRot.len {a b : List Int} : IsRot a b → a.length = b.length := fun ⟨u, v, h1, h2⟩ => by rw [h1, h2]; simp [Nat.add_comm]
theorem IsRot.mem {a b : List Int} : IsRot a b → ∀ x, x ∈ b → x ∈ a := fun ⟨u, v, h1, h2⟩ x h => by
  rw [h1]; rw [h2] at h; simp only [List.mem_append] at h ⊢; exact h.symm
theorem IsRot.undone {a b : List Int} : IsRot a b → IsRot (undone a) (undone b) := fun ⟨u, v, h1, h2⟩ => ⟨FG.undone v, FG.undone u, by rw [h1, undone_app], by rw [h2, undone_app]⟩
theorem rot_zero (w : List Int) : rot w 0 = w := by simp [rot]
theorem isRot_at {w b : List Int} (h : IsRot w b) : ∃ k, k ≤ w.length - 1 ∧ b = rot w k := by
  obtain ⟨u, v, h1, h2⟩ := h
  by_cases hv : v = []
  · refine ⟨0, Nat.zero_le _, ?_⟩
    rw [rot_zero, h1, h2, hv]; simp
  · refine ⟨u.length, ?_, ?_⟩
    · rw [h1, List.length_append]
      have := List.length_pos_iff.mpr hv
      omega
    · rw [h1, h2]; simp [rot]
def leastTurn (w : List Int) : Nat := argBest (fun i j => HT.lexLt (rot w i) (rot w j)) (w.length - 1)
def minrot (w : List Int) : List Int := rot w (leastTurn w)
theorem leastTurn_le (w : List Int) : leastTurn w ≤ w.length - 1 := (DL.argBest_least (lt := fun i j => HT.lexLt (rot w i) (rot w j)) (fun _ => DL.lexLt_irr _) (fun _ _ _ => DL.lexLt_tr _ _ _) (fun _ _ => DL.lexLt_as _ _) _).1
theorem minrot_rot (w : List Int) : IsRot w (minrot w) := isRot_rot w _
theorem minrot_least {w b : List Int} (h : IsRot w b) : HT.lexLt b (minrot w) = false := by
  obtain ⟨k, hk, rfl⟩ := isRot_at h
  exact (DL.argBest_least (lt := fun i j => HT.lexLt (rot w i) (rot w j)) (fun _ => DL.lexLt_irr _) (fun _ _ _ => DL.lexLt_tr _ _ _) (fun _ _ => DL.lexLt_as _ _) _).2 k hk
theorem minrot_unique {w a : List Int} (h : IsRot w a) (hl : ∀ b, IsRot w b → HT.lexLt b a = false) : a = minrot w := DL.lexLt_eq _ _ (minrot_least h) (hl _ (minrot_rot w))
theorem minrot_eq {a b : List Int} (h : IsRot a b) : minrot a = minrot b := minrot_unique (h.symm.trans (minrot_rot a)) fun c hc => minrot_least (h.trans hc)
theorem minrot_iff {a b : List Int} : minrot a = minrot b ↔ IsRot a b := ⟨fun e => (minrot_rot a).trans (e ▸ (minrot_rot b).symm), minrot_eq⟩
theorem minrot_idem (w : List Int) : minrot (minrot w) = minrot w := (minrot_eq (minrot_rot w)).symm
theorem argBest_first {lt : Nat → Nat → Bool} (irr : ∀ i, lt i i = false) (tr : ∀ i j k, lt i j = false → lt j k = false → lt i k = false) (as : ∀ i j, lt i j = true → lt j i = false) : ∀ k j, j < argBest lt k → lt (argBest lt k) j = true
  | 0, j, h => by cases h
  | k + 1, j, h => by
    unfold argBest at h ⊢
    by_cases c : lt (k + 1) (argBest lt k) = true
    · rw [if_pos c] at h ⊢
      have l := (DL.argBest_least irr tr as k).2 j (by omega)
      cases q : lt (k + 1) j with
      | true => rfl
      | false =>
        have := tr _ _ _ q l
        rw [c] at this; cases this
    · rw [if_neg c] at h ⊢
      exact argBest_first irr tr as k j h
theorem leastTurn_first {w : List Int} {j : Nat} (h : j < leastTurn w) : rot w j ≠ minrot w := fun e => by
  have := argBest_first (lt := fun i j => HT.lexLt (rot w i) (rot w j)) (fun _ => DL.lexLt_irr _) (fun _ _ _ => DL.lexLt_tr _ _ _) (fun _ _ => DL.lexLt_as _ _) _ j h
  have this : HT.lexLt (minrot w) (rot w j) = true := this
  rw [e, DL.lexLt_irr] at this; cases this
theorem leastTurn_zero {w : List Int} : leastTurn w = 0 ↔ minrot w = w := by
  constructor
  · intro h; unfold minrot; rw [h, rot_zero]
  · intro h
    cases q : leastTurn w with
    | zero => rfl
    | succ k => exact absurd (by rw [rot_zero, h]) (leastTurn_first (w := w) (j := 0) (by omega))
/-- reduced, its ends do not cancel: so are its turnings -/
theorem rot_cyc {a b : List Int} (hr : Red a) (hc : ¬ Canc a) (h : IsRot a b) : Red b ∧ ¬ Canc b := by
  obtain ⟨u, v, rfl, rfl⟩ := h
  by_cases hu : u = []
  · subst hu; exact ⟨by simpa using hr, by simpa using hc⟩
  by_cases hv : v = []
  · subst hv; exact ⟨by simpa using hr, by simpa using hc⟩
  constructor
  · refine red_join (red_right hr) (red_left hr) fun x h1 h2 => hc ?_
    have e1 := List.dropLast_concat_getLast hv
    have e2 : v.getLast hv = x := by rw [List.getLast?_eq_some_getLast hv] at h1; exact Option.some.inj h1
    cases u with
    | nil => exact absurd rfl hu
    | cons y u =>
      have e3 : y = -x := by simpa using h2
      refine ⟨-x, u ++ v.dropLast, ?_⟩
      rw [Int.neg_neg, e3]
      conv => lhs; rw [← e1, e2]
      simp
  · rintro ⟨x, m, e⟩
    cases v with
    | nil => exact hv rfl
    | cons y v =>
      have e1 : y = x := by injection e
      have e2 : v ++ u = m ++ [-x] := by injection e
      have e3 := List.dropLast_concat_getLast hu
      rw [← e3, ← List.append_assoc] at e2
      have e4 : u.getLast hu = -x := by have := congrArg List.getLast? e2; simpa using this
      exact hr u.dropLast (-x) v (by rw [Int.neg_neg, ← e1]; conv => lhs; rw [← e3, e4]
                                     rw [e1]; simp)
/-- the ring of a word -/
def ring (ns : List Int) : List Int := minrot (core (low ns))
theorem ring_cyc (ns : List Int) : Red (ring ns) ∧ ¬ Canc (ring ns) := rot_cyc (core_red (red_low ns)) (core_not _) (minrot_rot _)
theorem ring_sub {ns : List Int} {x : Int} (h : x ∈ ring ns) : x ∈ ns := low_sub (core_sub ((minrot_rot _).mem x h))
theorem ring_low (ns : List Int) : ring (low ns) = ring ns := by unfold ring; rw [low_low]
theorem ring_red {w : List Int} (h : Red w) : ring w = minrot (core w) := by unfold ring; rw [low_red h]
theorem ring_ring (ns : List Int) : ring (ring ns) = ring ns := by
  rw [ring_red (ring_cyc ns).1, core_stop (ring_cyc ns).2]
  exact minrot_idem _
theorem ring_len (ns : List Int) : (ring ns).length ≤ ns.length := by
  have h1 := (minrot_rot (core (low ns))).len
  have h2 := core_len (low ns)
  have h3 := low_len ns
  unfold ring; omega
theorem low_conj1 {w : List Int} (h : Red w) (b : Int) : minrot (core (low (b :: w ++ [-b]))) = minrot (core w) := by
  by_cases hw : w = []
  · subst hw
    have : low ([b] ++ [-b]) = [] := by
      have := sr_back red_nil b
      simpa [low] using this
    rw [show (b :: [] ++ [-b]) = [b] ++ [-b] from rfl, this]
  cases w with
  | nil => exact absurd rfl hw
  | cons y t =>
    have e0 : low (b :: (y :: t) ++ [-b]) = sr (low (b :: y :: t)) (-b) := low_snoc (b :: y :: t) (-b)
    by_cases hy : y = -b
    · subst hy
      have e1 : low (b :: -b :: t) = t := by
        have s1 : low ([b] ++ [-b]) = [] := by
          have := sr_back red_nil b
          simpa [low] using this
        rw [show b :: -b :: t = ([b] ++ [-b]) ++ t from rfl, ← low_left, s1, List.nil_append]
        exact low_red (red_right (a := [-b]) h)
      rw [e0, e1]
      unfold sr
      by_cases hl : t.getLast? = some (- -b)
      · rw [if_pos hl]
        have ht : t ≠ [] := fun e => by rw [e] at hl; cases hl
        have hg : t.getLast ht = - -b := by rw [List.getLast?_eq_some_getLast ht] at hl; exact Option.some.inj hl
        have e2 := List.dropLast_concat_getLast ht
        rw [hg] at e2
        rw [show -b :: t = -b :: (t.dropLast ++ [- -b]) by rw [e2], core_step]
      · rw [if_neg hl]
        have n1 : ¬ Canc (-b :: t) := fun ⟨x, m, e⟩ => by
          have q1 : -b = x := by injection e
          have q2 : t = m ++ [-x] := by injection e
          exact hl (by rw [q2, List.getLast?_concat, q1])
        have n2 : ¬ Canc (t ++ [-b]) := fun ⟨x, m, e⟩ => by
          cases t with
          | nil =>
            have := congrArg List.length e
            simp at this
          | cons z t =>
            have q1 : z = x := by injection e
            have q2 : t ++ [-b] = m ++ [-x] := by injection e
            have q3 : -b = -x := by have := congrArg List.getLast? q2; simpa using this
            exact h [] (-b) t (by rw [q1, q3, Int.neg_neg]; rfl)
        rw [core_stop n1, core_stop n2]
        exact (minrot_eq ⟨[-b], t, rfl, rfl⟩).symm
    · have r1 : Red (b :: y :: t) := red_join (a := [b]) (red_one b) h fun x h1 h2 => by
        have q1 : b = x := by simpa using h1
        have q2 : y = -x := by simpa using h2
        exact hy (by rw [q2, q1])
      rw [e0, low_red r1]
      unfold sr
      by_cases hl : (b :: y :: t).getLast? = some (- -b)
      · rw [if_pos hl]
        have hne : (y :: t) ≠ [] := by simp
        have hg : (y :: t).getLast hne = b := by
          rw [List.getLast?_cons_cons, List.getLast?_eq_some_getLast hne, Int.neg_neg] at hl; exact Option.some.inj hl
        have e2 := List.dropLast_concat_getLast hne
        rw [hg] at e2
        have e3 : (b :: y :: t).dropLast = b :: (y :: t).dropLast := rfl
        rw [e3]
        have n1 : ¬ Canc (y :: t) := fun ⟨x, m, e⟩ => by
          have q1 : y = x := by injection e
          rw [← e2] at e
          have q3 : b = -x := by
            have := congrArg List.getLast? e
            rw [List.getLast?_concat, ← List.cons_append, List.getLast?_concat] at this
            exact Option.some.inj this
          exact hy (by rw [q1]; omega)
        have n2 : ¬ Canc (b :: (y :: t).dropLast) := fun ⟨x, m, e⟩ => by
          have q1 : b = x := by injection e
          have q2 : (y :: t).dropLast = m ++ [-x] := by injection e
          rw [q2] at e2
          exact h m (-x) [] (by rw [Int.neg_neg, ← e2, q1]; simp)
        rw [core_stop n2, core_stop n1]
        exact (minrot_eq ⟨(y :: t).dropLast, [b], e2.symm, rfl⟩).symm
      · rw [if_neg hl]
        have : b :: y :: t ++ [-b] = b :: ((y :: t) ++ [-b]) := rfl
        rw [this, core_step]
/-- led about by another word -/
theorem ring_conj : ∀ (v w : List Int), ring (v ++ w ++ undone v) = ring w
  | [], w => by simp [undone]
  | b :: v, w => by
    have e : b :: v ++ w ++ undone (b :: v) = [b] ++ (v ++ w ++ undone v) ++ [-b] := by rw [undone_cons]; simp
    rw [e]
    unfold ring
    rw [← low_mid, show [b] ++ low (v ++ w ++ undone v) ++ [-b] = b :: low (v ++ w ++ undone v) ++ [-b] from rfl, low_conj1 (red_low _)]
    exact ring_conj v w
theorem ring_undone_of (ns : List Int) : ring (undone (ring ns)) = ring (undone (low ns)) := by
  obtain ⟨h1, h2⟩ := ring_cyc ns
  rw [ring_red (red_undone h1), core_undone, core_stop h2, ring_red (red_undone (red_low ns)), core_undone]
  exact (minrot_eq (IsRot.undone (minrot_rot _))).symm
theorem selfinv : ∀ w : List Int, nz w → Red w → w = undone w → w = [] := by
  have key : ∀ k (w : List Int), w.length ≤ k → nz w → Red w → w = undone w → w = [] := by
    intro k
    induction k with
    | zero => intro w h _ _ _; exact List.eq_nil_of_length_eq_zero (by omega)
    | succ k ih =>
      intro w hl hz hr e
      cases w with
      | nil => rfl
      | cons x r =>
        exfalso
        by_cases hrn : r = []
        · subst hrn
          have e1 : x = -x := by simpa [undone] using e
          exact hz x List.mem_cons_self (by omega)
        · have e3 := List.dropLast_concat_getLast hrn
          generalize hq : r.getLast hrn = y at e3
          generalize hm : r.dropLast = m at e3
          subst e3
          rw [undone_cons, undone_app] at e
          have e' : x :: (m ++ [y]) = -y :: (undone m ++ [-x]) := e
          have e1 : x = -y := by injection e'
          have e2 : m ++ [y] = undone m ++ [-x] := by injection e'
          have e4 : m = undone m := by
            have := congrArg List.dropLast e2
            simpa using this
          have hm0 := ih m (by simp at hl; omega) (fun z hz' => hz z (by simp [hz'])) (red_left (b := [y]) (red_right (a := [x]) hr)) e4
          subst hm0
          exact hr [] x [] (by rw [e1]; simp)
  exact fun w => key _ w (Nat.le_refl _)
/-- no ring but the empty one is its own undone one -/
theorem ring_ne_undone {ns : List Int} (hz : nz ns) (h : ring ns ≠ []) : ring ns ≠ ring (undone (low ns)) := fun e => by
  rw [← ring_undone_of] at e
  obtain ⟨h1, h2⟩ := ring_cyc ns
  rw [ring_red (red_undone h1), core_undone, core_stop h2] at e
  have e2 : minrot (ring ns) = minrot (undone (ring ns)) := by rw [← e]; exact minrot_idem _
  obtain ⟨u, v, p1, p2⟩ := minrot_iff.mp e2
  have z : nz (ring ns) := fun x hx => hz x (ring_sub hx)
  rw [p1] at p2 h1 z
  rw [undone_app] at p2
  obtain ⟨q1, q2⟩ := List.append_inj p2 (by rw [undone_len])
  have v0 := selfinv v (fun x hx => z x (by simp [hx])) (red_right h1) q1.symm
  have u0 := selfinv u (fun x hx => z x (by simp [hx])) (red_left h1) q2.symm
  exact h (by rw [p1, v0, u0]; rfl)
/-- a word that is its own ring -/
theorem ring_fix {v : List Int} : ring v = v ↔ Red v ∧ ¬ Canc v ∧ leastTurn v = 0 := by
  constructor
  · intro h
    have hl : (ring v).length = v.length := by rw [h]
    have h1 := (minrot_rot (core (low v))).len
    have h2 := core_len (low v)
    have h3 := low_len v
    have hl' : (minrot (core (low v))).length = v.length := hl
    have e1 := low_len_eq (ns := v) (by omega)
    have e2 := core_len_eq (w := low v) (by omega)
    have r := red_low v
    have n := core_not (low v)
    rw [e2, e1] at n
    rw [e1] at r
    refine ⟨r, n, leastTurn_zero.mpr ?_⟩
    have : ring v = minrot v := by unfold ring; rw [e2, e1]
    rw [← this]; exact h
  · rintro ⟨h1, h2, h3⟩
    rw [ring_red h1, core_stop h2]
    exact leastTurn_zero.mp h3
end FG

/-! RY: rows of digits, their numbers; plates as rows of ends; rays. Plain maths. -/
namespace RY
/-- the first n digits of x, read in base b -/
def V (b : Int) (x : Nat → Int) : Nat → Int
  | 0 => 0
  | n + 1 => V b x n * b + x n
theorem V_congr {b : Int} {x y : Nat → Int} : ∀ {n : Nat}, (∀ k, k < n → x k = y k) → V b x n = V b y n
  | 0, _ => rfl
  | n + 1, h => by
    show V b x n * b + x n = V b y n * b + y n
    rw [V_congr fun k hk => h k (by omega), h n (by omega)]
theorem V_add (b : Int) (x : Nat → Int) (m : Nat) : ∀ n : Nat, V b x (m + n) = V b x m * b ^ n + V b (fun k => x (m + k)) n
  | 0 => by show V b x m = V b x m * b ^ 0 + 0; rw [Int.pow_zero]; omega
  | n + 1 => by
    show V b x (m + n) * b + x (m + n) = V b x m * b ^ (n + 1) + (V b (fun k => x (m + k)) n * b + x (m + n))
    rw [V_add b x m n, Int.pow_succ]; grind
theorem V_nn {b : Int} {x : Nat → Int} (hb : 1 ≤ b) (h : ∀ k, 0 ≤ x k ∧ x k < b) : ∀ n, 0 ≤ V b x n
  | 0 => by show (0 : Int) ≤ 0; omega
  | n + 1 => by
    have := Int.mul_nonneg (V_nn hb h n) (by omega : (0 : Int) ≤ b)
    have := (h n).1
    show 0 ≤ V b x n * b + x n; omega
theorem V_lt_pow {b : Int} {x : Nat → Int} (hb : 1 ≤ b) (h : ∀ k, 0 ≤ x k ∧ x k < b) : ∀ n, V b x n < b ^ n
  | 0 => by show (0 : Int) < b ^ 0; rw [Int.pow_zero]; omega
  | n + 1 => by
    have h1 := V_lt_pow hb h n
    have h2 := (h n).2
    have h3 : (V b x n + 1) * b ≤ b ^ n * b := Int.mul_le_mul_of_nonneg_right (by omega) (by omega)
    show V b x n * b + x n < b ^ (n + 1)
    rw [Int.pow_succ]
    have : (V b x n + 1) * b = V b x n * b + b := by grind
    omega
theorem pow_pos' {b : Int} (hb : 1 ≤ b) (n : Nat) : 1 ≤ b ^ n := by
  have : 0 < b ^ n := Int.pow_pos (by omega)
  omega
theorem pow_gt {b : Int} (hb : 2 ≤ b) {n : Nat} (hn : 1 ≤ n) : 2 ≤ b ^ n := by
  obtain ⟨m, rfl⟩ : ∃ m, n = m + 1 := ⟨n - 1, by omega⟩
  rw [Int.pow_succ]
  have h1 := pow_pos' (b := b) (by omega) m
  have : 1 * b ≤ b ^ m * b := Int.mul_le_mul_of_nonneg_right h1 (by omega)
  omega
/-- the first digit unlike tells -/
theorem V_first {b : Int} {x y : Nat → Int} (hb : 1 ≤ b) (hx : ∀ k, 0 ≤ x k ∧ x k < b) (hy : ∀ k, 0 ≤ y k ∧ y k < b) {k n : Nat} (hk : k < n) (e : ∀ j, j < k → x j = y j) (h : x k < y k) : V b x n < V b y n := by
  obtain ⟨r, rfl⟩ : ∃ r, n = (k + 1) + r := ⟨n - (k + 1), by omega⟩
  rw [V_add b x (k + 1) r, V_add b y (k + 1) r]
  have e1 : V b x (k + 1) + 1 ≤ V b y (k + 1) := by
    show V b x k * b + x k + 1 ≤ V b y k * b + y k
    rw [V_congr e]; omega
  have h1 := V_lt_pow (x := fun j => x (k + 1 + j)) hb (fun j => hx _) r
  have h2 := V_nn (x := fun j => y (k + 1 + j)) hb (fun j => hy _) r
  have h3 : (V b x (k + 1) + 1) * b ^ r ≤ V b y (k + 1) * b ^ r := Int.mul_le_mul_of_nonneg_right e1 (by have := pow_pos' hb r; omega)
  have h4 : (V b x (k + 1) + 1) * b ^ r = V b x (k + 1) * b ^ r + b ^ r := by grind
  omega
def Per (x : Nat → Int) (p : Nat) : Prop := ∀ k, x (p + k) = x k
theorem V_per {b : Int} {x : Nat → Int} {p : Nat} (h : Per x p) : ∀ t : Nat, V b x (p * t) * (b ^ p - 1) = V b x p * (b ^ (p * t) - 1)
  | 0 => by rw [Nat.mul_zero]; show 0 * _ = _ * (b ^ 0 - 1); rw [Int.pow_zero]; grind
  | t + 1 => by
    have ih := V_per (b := b) h t
    rw [show p * (t + 1) = p + p * t by rw [Nat.mul_succ]; omega, V_add, V_congr (x := fun k => x (p + k)) (y := x) (fun k _ => h k), Int.pow_add]
    grind
theorem cross_lt {b : Int} {x y : Nat → Int} {p q k : Nat} (hb : 2 ≤ b) (hp : 1 ≤ p) (hq : 1 ≤ q) (hx : ∀ k, 0 ≤ x k ∧ x k < b) (hy : ∀ k, 0 ≤ y k ∧ y k < b) (px : Per x p) (py : Per y q)
    (e : ∀ j, j < k → x j = y j) (h : x k < y k) : V b x p * (b ^ q - 1) < V b y q * (b ^ p - 1) := by
  have a1 := V_per (b := b) px (q * (k + 1))
  have a2 := V_per (b := b) py (p * (k + 1))
  have eL : q * (p * (k + 1)) = p * (q * (k + 1)) := by rw [← Nat.mul_assoc, ← Nat.mul_assoc, Nat.mul_comm q p]
  rw [eL] at a2
  have hL : k < p * (q * (k + 1)) := by
    have h1 : 1 * (k + 1) ≤ q * (k + 1) := Nat.mul_le_mul_right _ hq
    have h2 : 1 * (q * (k + 1)) ≤ p * (q * (k + 1)) := Nat.mul_le_mul_right _ hp
    omega
  generalize p * (q * (k + 1)) = L at *
  have lt := V_first (by omega) hx hy hL e h
  have bp := pow_gt hb hp
  have bq := pow_gt hb hq
  have bL := pow_gt hb (n := L) (by omega)
  have key : V b x L * ((b ^ p - 1) * (b ^ q - 1)) < V b y L * ((b ^ p - 1) * (b ^ q - 1)) := Int.mul_lt_mul_of_pos_right lt (Int.mul_pos (by omega) (by omega))
  have k1 : V b x L * ((b ^ p - 1) * (b ^ q - 1)) = (V b x p * (b ^ q - 1)) * (b ^ L - 1) := by grind
  have k2 : V b y L * ((b ^ p - 1) * (b ^ q - 1)) = (V b y q * (b ^ p - 1)) * (b ^ L - 1) := by grind
  rw [k1, k2] at key
  exact Int.lt_of_mul_lt_mul_right key (by omega)
theorem cross_eq {b : Int} {x y : Nat → Int} {p q : Nat} (px : Per x p) (py : Per y q) (e : ∀ j, j < p + q → x j = y j) : V b x p * (b ^ q - 1) = V b y q * (b ^ p - 1) := by
  have h1 := V_add b x p q
  have h2 := V_add b y q p
  rw [V_congr (x := fun k => x (p + k)) (y := x) fun k _ => px k] at h1
  rw [V_congr (x := fun k => y (q + k)) (y := y) fun k _ => py k] at h2
  have h3 : V b x (p + q) = V b y (p + q) := V_congr e
  have h4 : V b x q = V b y q := V_congr fun k hk => e k (by omega)
  have h5 : V b x p = V b y p := V_congr fun k hk => e k (by omega)
  rw [Nat.add_comm q p] at h2
  grind
/-- one digit on -/
theorem V_on {b : Int} {x : Nat → Int} {p : Nat} (px : Per x p) : V b (fun k => x (1 + k)) p = b * V b x p - x 0 * (b ^ p - 1) := by
  have h1 := V_add b x 1 p
  have h2 : V b x (1 + p) = V b x p * b + x p := by rw [Nat.add_comm]; rfl
  have h3 : V b x 1 = x 0 := by show 0 * b + x 0 = x 0; omega
  have h4 : x p = x 0 := px 0
  rw [h3] at h1
  grind
def sgn (d : Int) : Int := (if decide (0 < d) = true then 1 else 0) - (if decide (d < 0) = true then 1 else 0)
theorem sgn_pos {d : Int} (h : 0 < d) : sgn d = 1 := by unfold sgn; rw [decide_eq_true h, decide_eq_false (by omega)]; rfl
theorem sgn_neg {d : Int} (h : d < 0) : sgn d = -1 := by unfold sgn; rw [decide_eq_true h, decide_eq_false (by omega)]; rfl
theorem sgn_zero {d : Int} (h : d = 0) : sgn d = 0 := by subst h; rfl

/-! plates -/
def at_ (P : List Int) (x : Int) : Int := (P.idxOf x : Nat)
/-- steps from an end to another one -/
def st (P : List Int) (a c : Int) : Int := (at_ P c - at_ P a) % (P.length : Int)
theorem at_nn (P : List Int) (x : Int) : 0 ≤ at_ P x := by unfold at_; omega
theorem at_lt {P : List Int} {x : Int} (h : x ∈ P) : at_ P x < P.length := by
  unfold at_
  have := List.idxOf_lt_length_iff.mpr h
  omega
theorem at_inj {P : List Int} {x y : Int} (hx : x ∈ P) (hy : y ∈ P) (e : at_ P x = at_ P y) : x = y := by
  unfold at_ at e
  have h1 := List.getElem_idxOf (List.idxOf_lt_length_iff.mpr hx)
  have h2 := List.getElem_idxOf (List.idxOf_lt_length_iff.mpr hy)
  have e : P.idxOf x = P.idxOf y := by omega
  rw [← h1, ← h2]
  congr 1
theorem st_nn {P : List Int} {a c : Int} (hP : P ≠ []) : 0 ≤ st P a c ∧ st P a c < P.length := by
  have := List.length_pos_iff.mpr hP
  exact ⟨Int.emod_nonneg _ (by omega), Int.emod_lt_of_pos _ (by omega)⟩
theorem emod_ne {i j c b : Int} (hi : 0 ≤ i ∧ i < b) (hj : 0 ≤ j ∧ j < b) (h : i ≠ j) : (i - c) % b ≠ (j - c) % b := fun e => by
  have h1 : (i - c) - (j - c) = b * ((i - c) / b - (j - c) / b) := by
    have a1 := Int.emod_add_mul_ediv (i - c) b
    have a2 := Int.emod_add_mul_ediv (j - c) b
    rw [Int.mul_sub]; omega
  generalize (i - c) / b - (j - c) / b = t at h1
  have : i - j = b * t := by omega
  have : t = 0 := by
    by_cases h0 : t ≥ 1
    · have : b * 1 ≤ b * t := Int.mul_le_mul_of_nonneg_left h0 (by omega)
      omega
    · by_cases h0 : t ≤ -1
      · have : b * t ≤ b * (-1) := Int.mul_le_mul_of_nonneg_left h0 (by omega)
        omega
      · omega
  subst this
  rw [Int.mul_zero] at *
  omega
theorem st_ne {P : List Int} {a c d : Int} (hc : c ∈ P) (hd : d ∈ P) (h : c ≠ d) : st P a c ≠ st P a d :=
  emod_ne ⟨at_nn P c, at_lt hc⟩ ⟨at_nn P d, at_lt hd⟩ fun e => h (at_inj hc hd e)
/-- the digits of a row of letters -/
def dig (P : List Int) (s : Nat → Int) (k : Nat) : Int := st P (-(s k)) (s (k + 1))
/-- the letters of a ring from a place on -/
def fw (R : List Int) (a k : Nat) : Int := R.getD ((a + k) % R.length) 0
theorem fw_per (R : List Int) (a : Nat) : Per (fw R a) R.length := fun k => by
  unfold fw
  rw [show a + (R.length + k) = a + k + R.length by omega, Nat.add_mod_right]
theorem dig_per (P R : List Int) (a : Nat) : Per (dig P (fw R a)) R.length := fun k => by
  unfold dig
  rw [fw_per R a k, Nat.add_assoc, fw_per R a (k + 1)]
theorem fw_mem {R : List Int} (h : R ≠ []) (a k : Nat) : fw R a k ∈ R := by
  have := List.length_pos_iff.mpr h
  have hl : (a + k) % R.length < R.length := Nat.mod_lt _ this
  unfold fw
  rw [List.getD_eq_getElem?_getD, List.getElem?_eq_getElem hl]
  exact List.getElem_mem hl
theorem fw_next (R : List Int) (a k : Nat) : fw R ((a + 1) % R.length) k = fw R a (1 + k) := by
  unfold fw
  rw [Nat.mod_add_mod, Nat.add_assoc]
theorem dig_next (P R : List Int) (a k : Nat) : dig P (fw R ((a + 1) % R.length)) k = dig P (fw R a) (1 + k) := by
  unfold dig
  rw [fw_next, fw_next, ← Nat.add_assoc]
/-- the number of a ray -/
def num (P R : List Int) (a : Nat) : Int := V P.length (dig P (fw R a)) R.length
def bot (P R : List Int) : Int := (P.length : Int) ^ R.length - 1
theorem dig_ok {P : List Int} (hP : P ≠ []) (s : Nat → Int) (k : Nat) : 0 ≤ dig P s k ∧ dig P s k < P.length := st_nn hP
theorem num_on (P R : List Int) (a : Nat) : num P R ((a + 1) % R.length) = P.length * num P R a - dig P (fw R a) 0 * bot P R := by
  unfold num bot
  rw [V_congr (y := fun k => dig P (fw R a) (1 + k)) fun k _ => dig_next P R a k]
  exact V_on (dig_per P R a)
theorem num_bound {P R : List Int} (hP : P ≠ []) (a : Nat) : 0 ≤ num P R a ∧ num P R a < (P.length : Int) ^ R.length := by
  have h1 := List.length_pos_iff.mpr hP
  exact ⟨V_nn (by omega) (dig_ok hP _) _, V_lt_pow (by omega) (dig_ok hP _) _⟩
/-- rays alike far enough have one number -/
theorem num_same {P R T : List Int} {a c : Nat} (e : ∀ j, j ≤ R.length + T.length → fw R a j = fw T c j) : num P R a * bot P T - num P T c * bot P R = 0 := by
  have := cross_eq (b := P.length) (dig_per P R a) (dig_per P T c) fun j hj => by unfold dig; rw [e j (by omega), e (j + 1) (by omega)]
  unfold num bot; omega
/-- .. and such that part: by the digits there -/
theorem num_part {P R T : List Int} {a c k : Nat} (hP : 2 ≤ P.length) (hR : R ≠ []) (hT : T ≠ []) (mR : ∀ x ∈ R, x ∈ P) (mT : ∀ x ∈ T, x ∈ P) (e : ∀ j, j ≤ k → fw R a j = fw T c j) (n : fw R a (k + 1) ≠ fw T c (k + 1)) :
    sgn (num P R a * bot P T - num P T c * bot P R) = if dig P (fw T c) k < dig P (fw R a) k then 1 else -1 := by
  have hn : P ≠ [] := fun z => by rw [z] at hP; simp at hP
  have l1 := List.length_pos_iff.mpr hR
  have l2 := List.length_pos_iff.mpr hT
  have ed : ∀ j, j < k → dig P (fw R a) j = dig P (fw T c) j := fun j hj => by unfold dig; rw [e j (by omega), e (j + 1) (by omega)]
  have nd : dig P (fw R a) k ≠ dig P (fw T c) k := by
    unfold dig
    rw [e k (Nat.le_refl _)]
    exact st_ne (mR _ (fw_mem hR _ _)) (mT _ (fw_mem hT _ _)) n
  unfold num bot
  split
  · rename_i h
    have := cross_lt (b := P.length) (by omega) l2 l1 (dig_ok hn _) (dig_ok hn _) (dig_per P T c) (dig_per P R a) (fun j hj => (ed j hj).symm) h
    exact sgn_pos (by omega)
  · have := cross_lt (b := P.length) (by omega) l1 l2 (dig_ok hn _) (dig_ok hn _) (dig_per P R a) (dig_per P T c) ed (k := k) (by omega)
    exact sgn_neg (by omega)
/-- taken twice -/
theorem fw_two {R : List Int} (hR : R ≠ []) (a k : Nat) : fw (R ++ R) a k = fw R a k := by
  have l := List.length_pos_iff.mpr hR
  unfold fw
  have h : (a + k) % (R ++ R).length % R.length = (a + k) % R.length := by
    rw [List.length_append, ← Nat.two_mul, Nat.mod_mod_of_dvd _ ⟨2, by omega⟩]
  have hl : (a + k) % (R ++ R).length < (R ++ R).length := Nat.mod_lt _ (by rw [List.length_append]; omega)
  rw [← h]
  generalize (a + k) % (R ++ R).length = i at *
  rw [List.length_append] at hl
  rw [List.getD_eq_getElem?_getD, List.getD_eq_getElem?_getD, List.getElem?_append]
  split
  · rename_i h2; rw [Nat.mod_eq_of_lt h2]
  · rename_i h2
    rw [Nat.mod_eq_sub_mod (by omega), Nat.mod_eq_of_lt (by omega)]
theorem num_two {P R : List Int} (hR : R ≠ []) (a : Nat) : num P (R ++ R) a * bot P R - num P R a * bot P (R ++ R) = 0 :=
  num_same fun j _ => fw_two hR a j
end RY

/-! OR: rounds of a map that goes through a list; how many there are. Plain maths. -/
namespace OR
/-- from x through t to z by f -/
def Link (f : Int → Int) : Int → List Int → Int → Prop
  | x, [], z => f x = z
  | x, y :: t, z => f x = y ∧ Link f y t z
def Cyc (f : Int → Int) : List Int → Prop
  | [] => False
  | x :: t => Link f x t x
theorem link_app {f : Int → Int} {y z : Int} {v : List Int} : ∀ {u : List Int} {x : Int}, Link f x (u ++ y :: v) z ↔ Link f x u y ∧ Link f y v z
  | [], x => Iff.rfl
  | w :: u, x => by
    show (f x = w ∧ Link f w (u ++ y :: v) z) ↔ (f x = w ∧ Link f w u y) ∧ Link f y v z
    rw [link_app (u := u)]
    exact ⟨fun ⟨a, b, c⟩ => ⟨⟨a, b⟩, c⟩, fun ⟨⟨a, b⟩, c⟩ => ⟨a, b, c⟩⟩
theorem cyc_rot {f : Int → Int} : ∀ {u v : List Int}, Cyc f (u ++ v) → Cyc f (v ++ u)
  | [], v, h => by rw [List.append_nil]; exact h
  | x :: u, [], h => by rw [List.append_nil] at h; exact h
  | x :: u, y :: v, h => by
    have h : Link f x (u ++ y :: v) x := h
    obtain ⟨h1, h2⟩ := link_app.mp h
    exact link_app.mpr ⟨h2, h1⟩
theorem cyc_at {f : Int → Int} {r : List Int} {x : Int} (h : Cyc f r) (hx : x ∈ r) : ∃ u v, r = u ++ x :: v ∧ Link f x (v ++ u) x := by
  obtain ⟨u, v, rfl⟩ := List.append_of_mem hx
  exact ⟨u, v, rfl, cyc_rot h⟩
theorem link_congr {f g : Int → Int} {z : Int} : ∀ {t : List Int} {x : Int}, (∀ y ∈ x :: t, f y = g y) → Link f x t z → Link g x t z
  | [], x, h, l => by
    have l : f x = z := l
    show g x = z
    rw [← h x (by simp)]; exact l
  | y :: t, x, h, l => by
    obtain ⟨a, b⟩ := l
    exact ⟨by rw [← h x (by simp)]; exact a, link_congr (fun w hw => h w (List.mem_cons_of_mem _ hw)) b⟩
theorem link_uniq {f : Int → Int} {z : Int} : ∀ {t t' : List Int} {x : Int}, z ∉ t → z ∉ t' → Link f x t z → Link f x t' z → t = t'
  | [], [], _, _, _, _, _ => rfl
  | [], y :: t', x, _, h', l, l' => by
    have l : f x = z := l
    exact absurd (l'.1 ▸ l ▸ List.mem_cons_self : z ∈ y :: t') h'
  | y :: t, [], x, h, _, l, l' => by
    have l' : f x = z := l'
    exact absurd (l.1 ▸ l' ▸ List.mem_cons_self : z ∈ y :: t) h
  | y :: t, y' :: t', x, h, h', l, l' => by
    have e : y = y' := l.1.symm.trans l'.1
    subst e
    rw [link_uniq (fun m => h (List.mem_cons_of_mem _ m)) (fun m => h' (List.mem_cons_of_mem _ m)) l.2 l'.2]
theorem link_closed {f : Int → Int} {C : Int → Prop} (hC : ∀ x, C x → C (f x)) {z : Int} : ∀ {t : List Int} {x : Int}, C x → Link f x t z → (∀ y ∈ t, C y) ∧ C z
  | [], x, h, l => ⟨fun _ m => (List.not_mem_nil m).elim, (show f x = z from l) ▸ hC x h⟩
  | y :: t, x, h, l => by
    obtain ⟨a, b⟩ := link_closed hC (by have := hC x h; rw [l.1] at this; exact this) l.2
    have hy : C y := by have := hC x h; rw [l.1] at this; exact this
    exact ⟨fun w m => (List.mem_cons.mp m).elim (fun e => e ▸ hy) (a w), b⟩
theorem cyc_closed {f : Int → Int} {r : List Int} (h : Cyc f r) {x : Int} (hx : x ∈ r) : f x ∈ r := by
  obtain ⟨u, v, rfl, l⟩ := cyc_at h hx
  cases e : v ++ u with
  | nil =>
    rw [e] at l
    have l : f x = x := l
    rw [l]; simp
  | cons y t =>
    rw [e] at l
    rw [l.1]
    have : y ∈ v ++ u := by rw [e]; simp
    simp only [List.mem_append, List.mem_cons] at this ⊢
    rcases this with h | h
    · exact .inr (.inr h)
    · exact .inl h
/-- rows of f that make up P -/
structure Dec (f : Int → Int) (P : List Int) (L : List (List Int)) : Prop where
  cyc : ∀ r ∈ L, Cyc f r
  perm : L.flatten.Perm P
theorem Dec.ne {f : Int → Int} {P : List Int} {L : List (List Int)} (h : Dec f P L) : ∀ r ∈ L, r ≠ [] := fun r hr e => by
  have := h.cyc r hr
  rw [e] at this; exact this
theorem nd_row {L : List (List Int)} (nd : L.flatten.Nodup) {r : List Int} (hr : r ∈ L) : r.Nodup := by
  obtain ⟨A, B, rfl⟩ := List.append_of_mem hr
  rw [List.flatten_append, List.flatten_cons] at nd
  exact (List.nodup_append.mp (List.nodup_append.mp nd).2.1).1
/-- what is told of rows whichever end they begin at: the same of all such -/
theorem uniq {α : Type} {f : Int → Int} {g : List Int → α} (hg : ∀ u v, g (u ++ v) = g (v ++ u)) : ∀ {L1 L2 : List (List Int)}, (∀ r ∈ L1, Cyc f r) → (∀ r ∈ L2, Cyc f r) → L1.flatten.Perm L2.flatten → L1.flatten.Nodup → (L1.map g).Perm (L2.map g)
  | [], L2, _, h2, hp, _ => by
    have e : L2.flatten = [] := List.Perm.eq_nil (by simpa using hp.symm)
    cases L2 with
    | nil => exact List.Perm.refl _
    | cons r L =>
      have := h2 r List.mem_cons_self
      rw [List.flatten_cons] at e
      rw [(List.append_eq_nil_iff.mp e).1] at this
      exact this.elim
  | r :: L1, L2, h1, h2, hp, nd => by
    have hc := h1 r List.mem_cons_self
    cases r with
    | nil => exact hc.elim
    | cons x t =>
      have hx : x ∈ L2.flatten := hp.mem_iff.mp (by simp)
      obtain ⟨r2, hr2, hx2⟩ := List.mem_flatten.mp hx
      obtain ⟨A, B, rfl⟩ := List.append_of_mem hr2
      obtain ⟨u, v, rfl, l⟩ := cyc_at (h2 r2 hr2) hx2
      have nd2 : (A ++ (u ++ x :: v) :: B).flatten.Nodup := hp.nodup_iff.mp nd
      have n1 : (x :: t).Nodup := nd_row nd List.mem_cons_self
      have n2 : (u ++ x :: v).Nodup := nd_row nd2 hr2
      have n2' : (x :: (v ++ u)).Nodup := (List.perm_append_comm (l₁ := u) (l₂ := x :: v)).nodup_iff.mp n2
      have e : t = v ++ u := link_uniq (List.nodup_cons.mp n1).1 (List.nodup_cons.mp n2').1 hc l
      subst e
      have eg : g (x :: (v ++ u)) = g (u ++ x :: v) := hg (x :: v) u
      have hp' : L1.flatten.Perm (A ++ B).flatten := by
        have q : ((x :: (v ++ u)) ++ L1.flatten).Perm ((x :: (v ++ u)) ++ (A ++ B).flatten) := by
          refine hp.trans ?_
          rw [List.flatten_append, List.flatten_cons, List.flatten_append]
          refine (List.perm_append_comm_assoc _ _ _).trans ?_
          exact List.Perm.append_right _ (List.perm_append_comm (l₁ := u) (l₂ := x :: v))
        exact (List.perm_append_left_iff _).mp q
      have nd' : L1.flatten.Nodup := by
        rw [List.flatten_cons] at nd
        exact (List.nodup_append.mp nd).2.1
      have ih := uniq hg (L1 := L1) (L2 := A ++ B) (fun r hr => h1 r (List.mem_cons_of_mem _ hr)) (fun r hr => h2 r (by
        rcases List.mem_append.mp hr with h | h
        · exact List.mem_append_left _ h
        · exact List.mem_append_right _ (List.mem_cons_of_mem _ h))) hp' nd'
      rw [List.map_cons, List.map_append, List.map_cons, eg]
      rw [List.map_append] at ih
      exact (ih.cons _).trans List.perm_middle.symm
/-! ### a swap -/
def sw (f : Int → Int) (a b : Int) (x : Int) : Int := if x = a then f b else if x = b then f a else f x
theorem sw_a {f : Int → Int} {a b : Int} : sw f a b a = f b := if_pos rfl
theorem sw_b {f : Int → Int} {a b : Int} : sw f a b b = f a := by
  unfold sw
  by_cases h : b = a
  · rw [if_pos h, h]
  · rw [if_neg h, if_pos rfl]
theorem sw_o {f : Int → Int} {a b x : Int} (h1 : x ≠ a) (h2 : x ≠ b) : sw f a b x = f x := by unfold sw; rw [if_neg h1, if_neg h2]
theorem link_head {f g : Int → Int} {x y z : Int} (e : g x = f y) {t : List Int} (h : ∀ w ∈ t, f w = g w) : Link f y t z → Link g x t z := by
  cases t with
  | nil => exact fun l => e.trans l
  | cons w t => exact fun l => ⟨e.trans l.1, link_congr h l.2⟩
theorem sw_dec {f : Int → Int} {P : List Int} {L : List (List Int)} (nd : P.Nodup) (D : Dec f P L) {a b : Int} (ha : a ∈ P) (hb : b ∈ P) (hab : a ≠ b) : ∃ L', Dec (sw f a b) P L' ∧ (L'.length = L.length + 1 ∨ L'.length + 1 = L.length) := by
  have ndL : L.flatten.Nodup := D.perm.nodup_iff.mpr nd
  obtain ⟨r1, hr1, ha1⟩ := List.mem_flatten.mp (D.perm.mem_iff.mpr ha)
  obtain ⟨A, B, rfl⟩ := List.append_of_mem hr1
  obtain ⟨u, v, rfl, la⟩ := cyc_at (D.cyc r1 hr1) ha1
  -- the rest, and a's row from a on
  have hp : ((a :: (v ++ u)) ++ (A ++ B).flatten).Perm P := by
    refine List.Perm.trans ?_ D.perm
    simp only [List.flatten_append, List.flatten_cons]
    refine List.Perm.trans ?_ (List.perm_append_comm_assoc _ _ _).symm
    exact List.Perm.append_right _ (List.perm_append_comm (l₁ := u) (l₂ := a :: v)).symm
  have hlen : (A ++ (u ++ a :: v) :: B).length = (A ++ B).length + 1 := by simp; omega
  have hrest : ∀ r ∈ A ++ B, Cyc f r := fun r hr => D.cyc r (by
    rcases List.mem_append.mp hr with h | h
    · exact List.mem_append_left _ h
    · exact List.mem_append_right _ (List.mem_cons_of_mem _ h))
  generalize A ++ B = R at *
  generalize v ++ u = w at *
  rw [hlen]
  clear hlen ha1 hr1 D ndL
  have ndp : ((a :: w) ++ R.flatten).Nodup := hp.nodup_iff.mpr nd
  obtain ⟨n1, n2, n3⟩ := List.nodup_append.mp ndp
  have hbm : b ∈ (a :: w) ++ R.flatten := hp.mem_iff.mpr hb
  have keep : ∀ r, (∀ y ∈ r, y ≠ a ∧ y ≠ b) → Cyc f r → Cyc (sw f a b) r := fun r hr hc => by
    cases r with
    | nil => exact hc
    | cons x t => exact link_congr (fun y hy => (sw_o (hr y hy).1 (hr y hy).2).symm) hc
  rcases List.mem_append.mp hbm with hbw | hbR
  · -- one row: two
    have hbw : b ∈ w := (List.mem_cons.mp hbw).resolve_left fun e => hab e.symm
    obtain ⟨c, d, rfl⟩ := List.append_of_mem hbw
    obtain ⟨l1, l2⟩ := link_app.mp la
    have q1 := List.nodup_cons.mp n1
    have q2 := List.nodup_append.mp q1.2
    have q3 := List.nodup_cons.mp q2.2.1
    refine ⟨(a :: d) :: (b :: c) :: R, ⟨fun r hr => ?_, ?_⟩, .inl (by simp)⟩
    · rcases List.mem_cons.mp hr with rfl | hr
      · refine link_head (y := b) sw_a (fun y hy => (sw_o (fun e => q1.1 (by rw [← e]; simp [hy])) fun e => q3.1 (by rw [← e]; exact hy)).symm) l2
      · rcases List.mem_cons.mp hr with rfl | hr
        · refine link_head (y := a) sw_b (fun y hy => (sw_o (fun e => q1.1 (by rw [← e]; simp [hy])) fun e => q2.2.2 y hy b (by simp) e).symm) l1
        · refine keep r (fun y hy => ⟨fun e => n3 a (by simp) y (List.mem_flatten.mpr ⟨r, hr, hy⟩) e.symm, fun e => n3 b (by simp) y (List.mem_flatten.mpr ⟨r, hr, hy⟩) e.symm⟩) (hrest r hr)
    · refine List.Perm.trans ?_ hp
      rw [List.flatten_cons, List.flatten_cons, ← List.append_assoc]
      refine List.Perm.append_right _ ?_
      show (a :: (d ++ b :: c)).Perm (a :: (c ++ b :: d))
      refine List.Perm.cons a ?_
      exact (List.perm_middle.trans (List.Perm.cons b List.perm_append_comm)).trans List.perm_middle.symm
  · -- two rows: one
    obtain ⟨r2, hr2, hb2⟩ := List.mem_flatten.mp hbR
    obtain ⟨A2, B2, rfl⟩ := List.append_of_mem hr2
    obtain ⟨u2, v2, rfl, lb⟩ := cyc_at (hrest r2 hr2) hb2
    have hp2 : ((b :: (v2 ++ u2)) ++ (A2 ++ B2).flatten).Perm (A2 ++ (u2 ++ b :: v2) :: B2).flatten := by
      rw [List.flatten_append, List.flatten_append, List.flatten_cons]
      refine List.Perm.trans ?_ (List.perm_append_comm_assoc _ _ _).symm
      exact List.Perm.append_right _ (List.perm_append_comm (l₁ := u2) (l₂ := b :: v2)).symm
    have hlen : (A2 ++ (u2 ++ b :: v2) :: B2).length = (A2 ++ B2).length + 1 := by simp; omega
    have hrest2 : ∀ r ∈ A2 ++ B2, Cyc f r := fun r hr => hrest r (by
      rcases List.mem_append.mp hr with h | h
      · exact List.mem_append_left _ h
      · exact List.mem_append_right _ (List.mem_cons_of_mem _ h))
    have hp3 : ((a :: w) ++ ((b :: (v2 ++ u2)) ++ (A2 ++ B2).flatten)).Perm P := (List.Perm.append_left _ hp2).trans hp
    generalize v2 ++ u2 = w2 at *
    generalize A2 ++ B2 = R2 at *
    rw [hlen]
    have nd3 := hp3.nodup_iff.mpr nd
    obtain ⟨m1, m2, m3⟩ := List.nodup_append.mp nd3
    obtain ⟨m4, m5, m6⟩ := List.nodup_append.mp m2
    have q1 := List.nodup_cons.mp m1
    have q2 := List.nodup_cons.mp m4
    refine ⟨(a :: (w2 ++ b :: w)) :: R2, ⟨fun r hr => ?_, ?_⟩, .inr (by simp)⟩
    · rcases List.mem_cons.mp hr with rfl | hr
      · refine link_app.mpr ⟨link_head (y := b) sw_a (fun y hy => (sw_o (fun e => m3 a (by simp) y (by simp [hy]) e.symm) fun e => q2.1 (by rw [← e]; exact hy)).symm) lb, link_head (y := a) sw_b (fun y hy => (sw_o (fun e => q1.1 (by rw [← e]; exact hy)) fun e => m3 y (by simp [hy]) b (by simp) e).symm) la⟩
      · refine keep r (fun y hy => ⟨fun e => m3 a (by simp) y (by simp only [List.mem_append]; exact .inr (List.mem_flatten.mpr ⟨r, hr, hy⟩)) e.symm, fun e => m6 b (by simp) y (List.mem_flatten.mpr ⟨r, hr, hy⟩) e.symm⟩) (hrest2 r hr)
    · refine List.Perm.trans ?_ hp3
      rw [List.flatten_cons, ← List.append_assoc]
      refine List.Perm.append_right _ ?_
      show (a :: (w2 ++ b :: w)).Perm (a :: (w ++ b :: w2))
      refine List.Perm.cons a ?_
      exact (List.perm_middle.trans (List.Perm.cons b List.perm_append_comm)).trans List.perm_middle.symm
end OR

/-! PL: plates as rows of ends: what stands behind, rims as rounds, how many. Plain maths. -/
namespace OR
theorem nd_at {P : List Int} (nd : P.Nodup) {i : Nat} {c : Int} (h : P[i]? = some c) : P.idxOf c = i := by
  have hi : i < P.length := by
    by_cases q : i < P.length
    · exact q
    · rw [List.getElem?_eq_none (by omega)] at h; cases h
  rw [List.getElem?_eq_getElem hi] at h
  have h := Option.some.inj h
  have hc : c ∈ P := h ▸ List.getElem_mem hi
  have hl := List.idxOf_lt_length_iff.mpr hc
  have e := List.getElem_idxOf hl
  exact (List.getElem_inj nd).mp (e.trans h.symm)
theorem at_idx {P : List Int} {x : Int} (hx : x ∈ P) : P[P.idxOf x]? = some x := by
  have hl := List.idxOf_lt_length_iff.mpr hx
  rw [List.getElem?_eq_getElem hl, List.getElem_idxOf]
/-- the end next behind -/
def beh (P : List Int) (x : Int) : Int := P.getD ((P.idxOf x + 1) % P.length) 0
theorem beh_at {P : List Int} (nd : P.Nodup) {i : Nat} {x : Int} (h : P[i]? = some x) : P[(i + 1) % P.length]? = some (beh P x) := by
  have hi : i < P.length := by
    by_cases q : i < P.length
    · exact q
    · rw [List.getElem?_eq_none (by omega)] at h; cases h
  have hm : (i + 1) % P.length < P.length := Nat.mod_lt _ (by omega)
  unfold beh
  rw [nd_at nd h, List.getD_eq_getElem?_getD, List.getElem?_eq_getElem hm]; rfl
theorem beh_mem {P : List Int} (nd : P.Nodup) {x : Int} (hx : x ∈ P) : beh P x ∈ P := List.mem_of_getElem? (beh_at nd (at_idx hx))
theorem beh_ne {P : List Int} (nd : P.Nodup) (h2 : 2 ≤ P.length) {x : Int} (hx : x ∈ P) : beh P x ≠ x := fun e => by
  have h1 := beh_at nd (at_idx hx)
  rw [e] at h1
  have h3 := nd_at nd h1
  have hl := List.idxOf_lt_length_iff.mpr hx
  by_cases q : P.idxOf x + 1 < P.length
  · rw [Nat.mod_eq_of_lt q] at h3; omega
  · rw [show P.idxOf x + 1 = P.length by omega, Nat.mod_self] at h3; omega
theorem Dec.congr {f g : Int → Int} {P : List Int} {L : List (List Int)} (D : Dec f P L) (h : ∀ x ∈ P, f x = g x) : Dec g P L := ⟨fun r hr => by
  have hm : ∀ y ∈ r, y ∈ P := fun y hy => D.perm.mem_iff.mp (List.mem_flatten.mpr ⟨r, hr, hy⟩)
  have := D.cyc r hr
  cases r with
  | nil => exact this
  | cons x t => exact link_congr (fun y hy => h y (hm y hy)) this, D.perm⟩
theorem beh_link {P : List Int} (nd : P.Nodup) {z : Int} (hz : P[0]? = some z) : ∀ (k i : Nat) (x : Int), i + k + 1 = P.length → P[i]? = some x → Link (beh P) x (P.drop (i + 1)) z
  | 0, i, x, e, h => by
    have h1 := beh_at nd h
    rw [show i + 1 = P.length by omega, Nat.mod_self, hz] at h1
    rw [List.drop_of_length_le (by omega)]
    exact (Option.some.inj h1).symm
  | k + 1, i, x, e, h => by
    have h1 := beh_at nd h
    rw [Nat.mod_eq_of_lt (by omega)] at h1
    have hi : i + 1 < P.length := by omega
    rw [List.drop_eq_getElem_cons hi]
    rw [List.getElem?_eq_getElem hi] at h1
    have h1 := Option.some.inj h1
    refine ⟨h1.symm, beh_link nd hz k (i + 1) _ (by omega) (List.getElem?_eq_getElem hi)⟩
theorem beh_dec {P : List Int} (nd : P.Nodup) (hP : P ≠ []) : Dec (beh P) P [P] := by
  refine ⟨fun r hr => ?_, by simp⟩
  have hr : r = P := List.mem_singleton.mp hr
  subst hr
  cases r with
  | nil => exact (hP rfl).elim
  | cons x t =>
    have := beh_link nd (z := x) rfl t.length 0 x (by simp) rfl
    exact this
/-- the letter behind a letter along its rim -/
def phi (P : List Int) (l : Int) : Int := beh P (-l)
structure PlZ (n : Nat) (P : List Int) : Prop where
  nd : P.Nodup
  len : P.length = 2 * n
  mem : ∀ x : Int, x ∈ P ↔ x ≠ 0 ∧ x ≤ n ∧ -(n : Int) ≤ x
def flip (j : Nat) (x : Int) : Int := if x ≤ j ∧ -(j : Int) ≤ x then -x else x
theorem flips {n : Nat} {P : List Int} (h : PlZ n P) (hn : 1 ≤ n) : ∀ j : Nat, j ≤ n → ∃ L, Dec (fun x => beh P (flip j x)) P L ∧ L.length ≤ j + 1 ∧ (L.length + j) % 2 = 1
  | 0, _ => by
    have hP : P ≠ [] := fun e => by have := h.len; rw [e] at this; simp at this; omega
    refine ⟨[P], (beh_dec h.nd hP).congr fun x hx => ?_, by simp, by simp⟩
    have h0 := ((h.mem x).mp hx).1
    show beh P x = beh P (flip 0 x)
    unfold flip
    rw [if_neg (by omega)]
  | j + 1, hj => by
    obtain ⟨L, D, l1, l2⟩ := flips h hn j (by omega)
    have ha : (((j + 1 : Nat) : Int)) ∈ P := (h.mem _).mpr ⟨by omega, by omega, by omega⟩
    have hb : -(((j + 1 : Nat) : Int)) ∈ P := (h.mem _).mpr ⟨by omega, by omega, by omega⟩
    obtain ⟨L', D', l3⟩ := sw_dec h.nd D ha hb (by omega)
    refine ⟨L', D'.congr fun x hx => ?_, by omega, by omega⟩
    have e1 : flip j (((j + 1 : Nat) : Int)) = ((j + 1 : Nat) : Int) := if_neg (by omega)
    have e2 : flip j (-(((j + 1 : Nat) : Int))) = -((j + 1 : Nat) : Int) := if_neg (by omega)
    have e3 : flip (j + 1) (((j + 1 : Nat) : Int)) = -((j + 1 : Nat) : Int) := if_pos (by omega)
    have e4 : flip (j + 1) (-(((j + 1 : Nat) : Int))) = ((j + 1 : Nat) : Int) := by unfold flip; rw [if_pos (by omega)]; omega
    show sw (fun x => beh P (flip j x)) _ _ x = beh P (flip (j + 1) x)
    by_cases c1 : x = ((j + 1 : Nat) : Int)
    · subst c1
      rw [sw_a, e3]
      show beh P (flip j _) = _
      rw [e2]
    · by_cases c2 : x = -((j + 1 : Nat) : Int)
      · subst c2
        rw [sw_b, e4]
        show beh P (flip j _) = _
        rw [e1]
      · rw [sw_o c1 c2]
        show beh P (flip j x) = beh P (flip (j + 1) x)
        unfold flip
        by_cases c3 : x ≤ j ∧ -(j : Int) ≤ x
        · rw [if_pos c3, if_pos (by omega)]
        · rw [if_neg c3, if_neg (by omega)]
/-- rims are as many as bands and one, or fewer by an even number -/
theorem phi_dec {n : Nat} {P : List Int} (h : PlZ n P) (hn : 1 ≤ n) : ∃ L, Dec (phi P) P L ∧ L.length ≤ n + 1 ∧ (L.length + n) % 2 = 1 := by
  obtain ⟨L, D, l1, l2⟩ := flips h hn n (Nat.le_refl _)
  refine ⟨L, D.congr fun x hx => ?_, l1, l2⟩
  have := (h.mem x).mp hx
  show beh P (flip n x) = beh P (-x)
  unfold flip
  rw [if_pos (by omega)]
/-! rounds one after another -/
def orbF (f : Int → Int) (z : Int) : Nat → Int → List Int
  | 0, _ => []
  | k + 1, x => if x = z then [] else x :: orbF f z k (f x)
def orb (f : Int → Int) (N : Nat) (l : Int) : List Int := l :: orbF f l N (f l)
theorem orbF_eq {f : Int → Int} {z : Int} : ∀ {t : List Int} {x : Int} {k : Nat}, Link f x t z → z ∉ t → t.length ≤ k → orbF f z k (f x) = t
  | [], x, k, l, _, _ => by
    have l : f x = z := l
    rw [l]
    cases k with
    | zero => rfl
    | succ k => exact if_pos rfl
  | y :: t, x, k, l, h, hk => by
    cases k with
    | zero => simp at hk
    | succ k =>
      rw [l.1]
      unfold orbF
      rw [if_neg (show ¬ y = z from fun e => h (e ▸ List.mem_cons_self)), orbF_eq l.2 (fun m => h (List.mem_cons_of_mem _ m)) (by simpa using hk)]
def rowsOf (f : Int → Int) (N : Nat) : List Int → List Int → List (List Int)
  | _, [] => []
  | met, l :: r => if l ∈ met then rowsOf f N met r else orb f N l :: rowsOf f N (met ++ orb f N l) r
theorem orb_cyc {f : Int → Int} {P : List Int} {L : List (List Int)} (nd : P.Nodup) (D : Dec f P L) {l : Int} (hl : l ∈ P) : ∃ t, orb f P.length l = l :: t ∧ Link f l t l ∧ (l :: t).Nodup ∧ (∀ y ∈ t, y ∈ P) ∧ t.length < P.length := by
  have ndL : L.flatten.Nodup := D.perm.nodup_iff.mpr nd
  obtain ⟨r, hr, hx⟩ := List.mem_flatten.mp (D.perm.mem_iff.mpr hl)
  obtain ⟨u, v, rfl, lk⟩ := cyc_at (D.cyc r hr) hx
  have n1 : (l :: (v ++ u)).Nodup := (List.perm_append_comm (l₁ := u) (l₂ := l :: v)).nodup_iff.mp (nd_row ndL hr)
  obtain ⟨A, B, rfl⟩ := List.append_of_mem hr
  have hlen : (v ++ u).length < P.length := by
    rw [← D.perm.length_eq, List.flatten_append, List.flatten_cons]
    simp only [List.length_append, List.length_cons]; omega
  refine ⟨v ++ u, ?_, lk, n1, fun y hy => D.perm.mem_iff.mp (List.mem_flatten.mpr ⟨_, hr, ?_⟩), hlen⟩
  · unfold orb
    rw [orbF_eq lk (List.nodup_cons.mp n1).1 (Nat.le_of_lt hlen)]
  · simp only [List.mem_append, List.mem_cons] at hy ⊢
    rcases hy with h | h
    · exact .inr (.inr h)
    · exact .inl h
theorem rows_inv {f : Int → Int} {P : List Int} {L : List (List Int)} (nd : P.Nodup) (D : Dec f P L) : ∀ (r met : List Int), (∀ x ∈ r, x ∈ P) → (∀ x ∈ met, x ∈ P ∧ f x ∈ met) → met.Nodup →
    (∀ s ∈ rowsOf f P.length met r, Cyc f s) ∧ (met ++ (rowsOf f P.length met r).flatten).Nodup ∧ (∀ x ∈ r, x ∈ met ++ (rowsOf f P.length met r).flatten) ∧ ∀ x ∈ (rowsOf f P.length met r).flatten, x ∈ P
  | [], met, _, _, hm => by
    refine ⟨fun s hs => (List.not_mem_nil hs).elim, ?_, fun x hx => (List.not_mem_nil hx).elim, fun x hx => (List.not_mem_nil hx).elim⟩
    show (met ++ []).Nodup
    rw [List.append_nil]; exact hm
  | l :: r, met, hr, hm, nm => by
    unfold rowsOf
    by_cases c : l ∈ met
    · rw [if_pos c]
      obtain ⟨a, b, d, e⟩ := rows_inv nd D r met (fun x hx => hr x (List.mem_cons_of_mem _ hx)) hm nm
      exact ⟨a, b, fun x hx => (List.mem_cons.mp hx).elim (fun e => e ▸ List.mem_append_left _ c) (d x), e⟩
    · rw [if_neg c]
      obtain ⟨t, e0, lk, n1, hP, _⟩ := orb_cyc nd D (hr l List.mem_cons_self)
      have hlP : l ∈ P := hr l List.mem_cons_self
      have hoP : ∀ y ∈ l :: t, y ∈ P := fun y hy => (List.mem_cons.mp hy).elim (fun e => e ▸ hlP) (hP y)
      have ho : Cyc f (l :: t) := lk
      have dis : ∀ a ∈ met, ∀ b ∈ l :: t, a ≠ b := fun a ha b hb e => by
        subst e
        obtain ⟨u, v, e1, lk2⟩ := cyc_at ho hb
        have := link_closed (C := fun x => x ∈ met) (fun x hx => (hm x hx).2) ha lk2
        have hl : l ∈ u ++ a :: v := e1 ▸ List.mem_cons_self
        simp only [List.mem_append, List.mem_cons] at hl
        rcases hl with h | h | h
        · exact c (this.1 l (List.mem_append_right _ h))
        · exact c (h ▸ ha)
        · exact c (this.1 l (List.mem_append_left _ h))
      rw [e0]
      obtain ⟨a, b, d, e⟩ := rows_inv nd D r (met ++ (l :: t)) (fun x hx => hr x (List.mem_cons_of_mem _ hx)) (fun x hx => by
        rcases List.mem_append.mp hx with h | h
        · exact ⟨(hm x h).1, List.mem_append_left _ (hm x h).2⟩
        · exact ⟨hoP x h, List.mem_append_right _ (cyc_closed ho h)⟩) (List.nodup_append.mpr ⟨nm, n1, dis⟩)
      refine ⟨fun s hs => ?_, ?_, fun x hx => ?_, fun x hx => ?_⟩
      · rcases List.mem_cons.mp hs with rfl | hs
        · exact ho
        · exact a s hs
      · rw [List.flatten_cons, ← List.append_assoc]; exact b
      · rw [List.flatten_cons, ← List.append_assoc]
        rcases List.mem_cons.mp hx with rfl | hx
        · exact List.mem_append_left _ (List.mem_append_right _ List.mem_cons_self)
        · exact d x hx
      · rw [List.flatten_cons] at hx
        rcases List.mem_append.mp hx with h | h
        · exact hoP x h
        · exact e x h
theorem rows_dec {f : Int → Int} {P : List Int} {L : List (List Int)} (nd : P.Nodup) (D : Dec f P L) : Dec f P (rowsOf f P.length [] P) := by
  obtain ⟨a, b, d, e⟩ := rows_inv nd D P [] (fun _ h => h) (fun _ h => by cases h) List.nodup_nil
  rw [List.nil_append] at b
  refine ⟨a, (List.perm_ext_iff_of_nodup b nd).mpr fun x => ⟨e x, fun h => ?_⟩⟩
  have := d x h
  rw [List.nil_append] at this; exact this
theorem dec_len {f : Int → Int} {P P' : List Int} {L L' : List (List Int)} (nd : P.Nodup) (D : Dec f P L) (D' : Dec f P' L') (hp : P.Perm P') : L.length = L'.length := by
  have := (uniq (g := fun _ => ()) (fun _ _ => rfl) D.cyc D'.cyc (D.perm.trans (hp.trans D'.perm.symm)) (D.perm.nodup_iff.mpr nd)).length_eq
  rwa [List.length_map, List.length_map] at this
/-- a plate's rims, as rows of letters -/
def rims (P : List Int) : List (List Int) := rowsOf (phi P) P.length [] P
theorem rims_dec {n : Nat} {P : List Int} (h : PlZ n P) (hn : 1 ≤ n) : Dec (phi P) P (rims P) := by
  obtain ⟨L, D, _⟩ := phi_dec h hn
  exact rows_dec h.nd D
theorem rims_len {n : Nat} {P : List Int} (h : PlZ n P) (hn : 1 ≤ n) : (rims P).length ≤ n + 1 ∧ ((rims P).length + n) % 2 = 1 := by
  obtain ⟨L, D, l1, l2⟩ := phi_dec h hn
  rw [dec_len h.nd (rows_dec h.nd D) D (List.Perm.refl _) |> fun e => (e : (rims P).length = L.length)]
  exact ⟨l1, l2⟩
/-! told from another end on, mirrored -/
theorem turn_get {P : List Int} {k : Nat} (hk : k ≤ P.length) (hP : P ≠ []) (i : Nat) (hi : i < P.length) : (P.drop k ++ P.take k)[i]? = P[(k + i) % P.length]? := by
  have := List.length_pos_iff.mpr hP
  rw [List.getElem?_append, List.length_drop]
  by_cases h : i < P.length - k
  · rw [if_pos h, List.getElem?_drop, Nat.mod_eq_of_lt (by omega)]
  · rw [if_neg h, List.getElem?_take, if_pos (by omega), Nat.mod_eq_sub_mod (by omega), Nat.mod_eq_of_lt (by omega)]
    congr 1; omega
theorem turn_perm (P : List Int) (k : Nat) : (P.drop k ++ P.take k).Perm P := by
  have := List.perm_append_comm (l₁ := P.drop k) (l₂ := P.take k)
  rwa [List.take_append_drop] at this
theorem turn_beh {P : List Int} (nd : P.Nodup) {k : Nat} (hk : k ≤ P.length) {x : Int} (hx : x ∈ P) : beh (P.drop k ++ P.take k) x = beh P x := by
  have hP : P ≠ [] := fun e => by rw [e] at hx; cases hx
  have hp := turn_perm P k
  have nd' := hp.nodup_iff.mpr nd
  have hl : (P.drop k ++ P.take k).length = P.length := hp.length_eq
  have hpos := List.length_pos_iff.mpr hP
  have hix := List.idxOf_lt_length_iff.mpr (hp.mem_iff.mpr hx)
  have h1 := at_idx (hp.mem_iff.mpr hx)
  rw [hl] at hix
  generalize (P.drop k ++ P.take k).idxOf x = i at *
  have h2 := beh_at nd' h1
  rw [turn_get hk hP i hix] at h1
  have h3 := beh_at nd h1
  rw [hl, turn_get hk hP _ (Nat.mod_lt _ hpos)] at h2
  rw [Nat.mod_add_mod] at h3
  rw [Nat.add_mod_mod, ← Nat.add_assoc, h3] at h2
  exact (Option.some.inj h2).symm
theorem turn_plz {n : Nat} {P : List Int} (h : PlZ n P) (k : Nat) : PlZ n (P.drop k ++ P.take k) :=
  ⟨(turn_perm P k).nodup_iff.mpr h.nd, by rw [(turn_perm P k).length_eq]; exact h.len, fun x => by rw [(turn_perm P k).mem_iff]; exact h.mem x⟩
theorem turn_rims {n : Nat} {P : List Int} (h : PlZ n P) (hn : 1 ≤ n) {k : Nat} (hk : k ≤ P.length) {α : Type} {g : List Int → α} (hg : ∀ u v, g (u ++ v) = g (v ++ u)) : ((rims (P.drop k ++ P.take k)).map g).Perm ((rims P).map g) := by
  have D1 := rims_dec (turn_plz h k) hn
  have D2 := rims_dec h hn
  have D1' : Dec (phi P) (P.drop k ++ P.take k) (rims (P.drop k ++ P.take k)) := D1.congr fun x hx => by
    have hx := (turn_perm P k).mem_iff.mp hx
    have := (h.mem x).mp hx
    exact turn_beh h.nd hk ((h.mem (-x)).mpr ⟨by omega, by omega, by omega⟩)
  exact uniq hg D1'.cyc D2.cyc (D1'.perm.trans ((turn_perm P k).trans D2.perm.symm)) (D1'.perm.nodup_iff.mpr (turn_plz h k).nd)
theorem rev_beh {P : List Int} (nd : P.Nodup) {a : Int} (ha : a ∈ P) : beh P.reverse (beh P a) = a := by
  have hl := List.idxOf_lt_length_iff.mpr ha
  have h1 := at_idx ha
  have h2 := beh_at nd h1
  have nd' : P.reverse.Nodup := (List.reverse_perm P).nodup_iff.mpr nd
  generalize P.idxOf a = i at *
  have hm : (i + 1) % P.length < P.length := Nat.mod_lt _ (by omega)
  have h3 : P.reverse[P.length - 1 - (i + 1) % P.length]? = some (beh P a) := by
    rw [List.getElem?_reverse (by omega), ← h2]
    congr 1; omega
  have h4 := beh_at nd' h3
  rw [List.length_reverse] at h4
  have h5 : (P.length - 1 - (i + 1) % P.length + 1) % P.length = P.length - 1 - i := by
    by_cases c : i + 1 < P.length
    · rw [Nat.mod_eq_of_lt c, Nat.mod_eq_of_lt (by omega)]; omega
    · rw [show i + 1 = P.length by omega, Nat.mod_self, show P.length - 1 - 0 + 1 = P.length by omega, Nat.mod_self]; omega
  rw [h5, List.getElem?_reverse (by omega), show P.length - 1 - (P.length - 1 - i) = i by omega, h1] at h4
  exact (Option.some.inj h4).symm
/-- a row undone -/
def und (ns : List Int) : List Int := ns.reverse.map fun x => -x
theorem und_app (u v : List Int) : und (u ++ v) = und v ++ und u := by simp [und]
theorem link_und {f g : Int → Int} {P : List Int} (hg : ∀ x ∈ P, g (-(f x)) = -x) : ∀ {t : List Int} {x z : Int}, x ∈ P → (∀ y ∈ t, y ∈ P) → Link f x t z → Link g (-z) (und t) (-x)
  | [], x, z, hx, _, l => by
    have l : f x = z := l
    have := hg x hx
    rw [l] at this; exact this
  | y :: t, x, z, hx, ht, l => by
    have h1 := link_und hg (ht y List.mem_cons_self) (fun w hw => ht w (List.mem_cons_of_mem _ hw)) l.2
    have h2 := hg x hx
    rw [l.1] at h2
    have e : und (y :: t) = und t ++ [-y] := by simp [und]
    rw [e]
    exact link_app.mpr ⟨h1, h2⟩
theorem cyc_und {f g : Int → Int} {P r : List Int} (hg : ∀ x ∈ P, g (-(f x)) = -x) (hr : ∀ y ∈ r, y ∈ P) (h : Cyc f r) : Cyc g (und r) := by
  cases r with
  | nil => exact h
  | cons x t =>
    have h1 := link_und hg (hr x List.mem_cons_self) (fun y hy => hr y (List.mem_cons_of_mem _ hy)) h
    have e : und (x :: t) = und t ++ [-x] := by simp [und]
    rw [e]
    exact cyc_rot (u := [-x]) (v := und t) h1
theorem rev_plz {n : Nat} {P : List Int} (h : PlZ n P) : PlZ n P.reverse := ⟨(List.reverse_perm P).nodup_iff.mpr h.nd, by rw [List.length_reverse]; exact h.len, fun x => by rw [List.mem_reverse]; exact h.mem x⟩
theorem neg_perm {n : Nat} {P : List Int} (h : PlZ n P) : (P.map fun x => -x).Perm P := by
  refine (List.perm_ext_iff_of_nodup ?_ h.nd).mpr fun x => ?_
  · exact List.Pairwise.map (fun x => -x) (fun _ _ n e => n (by omega)) h.nd
  · rw [List.mem_map]
    constructor
    · rintro ⟨y, hy, rfl⟩
      have := (h.mem y).mp hy
      exact (h.mem _).mpr ⟨by omega, by omega, by omega⟩
    · intro hx
      have := (h.mem x).mp hx
      exact ⟨-x, (h.mem _).mpr ⟨by omega, by omega, by omega⟩, by omega⟩
theorem und_perm (r : List Int) : (und r).Perm (r.map fun x => -x) := (List.reverse_perm r).map _
theorem flat_und : ∀ L : List (List Int), (L.map und).flatten.Perm (L.flatten.map fun x => -x)
  | [] => List.Perm.refl _
  | r :: L => by
    rw [List.map_cons, List.flatten_cons, List.flatten_cons, List.map_append]
    exact (und_perm r).append (flat_und L)
theorem rev_dec {n : Nat} {P : List Int} (h : PlZ n P) (hn : 1 ≤ n) : Dec (phi P.reverse) P.reverse ((rims P).map und) := by
  have D := rims_dec h hn
  refine ⟨fun r hr => ?_, (flat_und _).trans ((D.perm.map _).trans ((neg_perm h).trans (List.reverse_perm P).symm))⟩
  obtain ⟨s, hs, rfl⟩ := List.mem_map.mp hr
  refine cyc_und (P := P) (fun x hx => ?_) (fun y hy => D.perm.mem_iff.mp (List.mem_flatten.mpr ⟨s, hs, hy⟩)) (D.cyc s hs)
  have := (h.mem x).mp hx
  show beh P.reverse (- -(beh P (-x))) = -x
  rw [Int.neg_neg]
  exact rev_beh h.nd ((h.mem _).mpr ⟨by omega, by omega, by omega⟩)
theorem rev_rims {n : Nat} {P : List Int} (h : PlZ n P) (hn : 1 ≤ n) {α : Type} {g : List Int → α} (hg : ∀ u v, g (u ++ v) = g (v ++ u)) : ((rims P.reverse).map g).Perm ((rims P).map fun r => g (und r)) := by
  have D1 := rims_dec (rev_plz h) hn
  have D2 := rev_dec h hn
  have := uniq hg D1.cyc D2.cyc (D1.perm.trans D2.perm.symm) (D1.perm.nodup_iff.mpr (rev_plz h).nd)
  rwa [List.map_map] at this
end OR

/-! PM: plates with bands renamed: rims are renamed, too. Plain maths. -/
namespace OR
theorem idx_map {σ : Int → Int} {x : Int} : ∀ {P : List Int}, (∀ y ∈ P, σ y = σ x → y = x) → (P.map σ).idxOf (σ x) = P.idxOf x
  | [], _ => rfl
  | y :: t, h => by
    rw [List.map_cons, List.idxOf_cons, List.idxOf_cons]
    by_cases c : y = x
    · subst c; simp
    · have : σ y ≠ σ x := fun e => c (h y List.mem_cons_self e)
      rw [beq_eq_false_iff_ne.mpr c, beq_eq_false_iff_ne.mpr this, idx_map fun z hz => h z (List.mem_cons_of_mem _ hz)]
/-- a renaming of the ends of P -/
structure Ren (P : List Int) (σ : Int → Int) : Prop where
  inj : ∀ x ∈ P, ∀ y ∈ P, σ x = σ y → x = y
  neg : ∀ x, σ (-x) = -(σ x)
theorem ren_beh {P : List Int} {σ : Int → Int} (h : Ren P σ) (nd : P.Nodup) {x : Int} (hx : x ∈ P) : beh (P.map σ) (σ x) = σ (beh P x) := by
  have e := beh_at nd (at_idx hx)
  unfold beh at e ⊢
  rw [idx_map fun y hy e => h.inj y hy x hx e, List.length_map, List.getD_eq_getElem?_getD, List.getElem?_map, List.getD_eq_getElem?_getD, e]
  rw [List.getD_eq_getElem?_getD] at e
  rfl
theorem ren_phi {n : Nat} {P : List Int} {σ : Int → Int} (h : Ren P σ) (hP : PlZ n P) {x : Int} (hx : x ∈ P) : phi (P.map σ) (σ x) = σ (phi P x) := by
  have hm := (hP.mem x).mp hx
  unfold phi
  rw [← h.neg]
  exact ren_beh h hP.nd ((hP.mem (-x)).mpr ⟨by omega, by omega, by omega⟩)
theorem phi_mem {n : Nat} {P : List Int} (hP : PlZ n P) {x : Int} (hx : x ∈ P) : phi P x ∈ P := by
  have hm := (hP.mem x).mp hx
  exact beh_mem hP.nd ((hP.mem (-x)).mpr ⟨by omega, by omega, by omega⟩)
theorem ren_orbF {n : Nat} {P : List Int} {σ : Int → Int} (h : Ren P σ) (hP : PlZ n P) {z : Int} (hz : z ∈ P) : ∀ (k : Nat) (x : Int), x ∈ P → orbF (phi (P.map σ)) (σ z) k (σ x) = (orbF (phi P) z k x).map σ ∧ ∀ y ∈ orbF (phi P) z k x, y ∈ P
  | 0, x, hx => ⟨rfl, fun y hy => nomatch hy⟩
  | k + 1, x, hx => by
    unfold orbF
    by_cases c : x = z
    · rw [if_pos c, if_pos (by rw [c])]
      exact ⟨rfl, fun y hy => nomatch hy⟩
    · rw [if_neg c, if_neg fun e => c (h.inj x hx z hz e), ren_phi h hP hx]
      obtain ⟨i1, i2⟩ := ren_orbF h hP hz k (phi P x) (phi_mem hP hx)
      rw [i1]
      refine ⟨rfl, fun y hy => ?_⟩
      rcases List.mem_cons.mp hy with rfl | hy
      · exact hx
      · exact i2 y hy
theorem ren_orb {n : Nat} {P : List Int} {σ : Int → Int} (h : Ren P σ) (hP : PlZ n P) (N : Nat) {l : Int} (hl : l ∈ P) : orb (phi (P.map σ)) N (σ l) = (orb (phi P) N l).map σ ∧ ∀ y ∈ orb (phi P) N l, y ∈ P := by
  obtain ⟨i1, i2⟩ := ren_orbF h hP hl N (phi P l) (phi_mem hP hl)
  unfold orb
  rw [ren_phi h hP hl, i1]
  refine ⟨rfl, fun y hy => ?_⟩
  rcases List.mem_cons.mp hy with rfl | hy
  · exact hl
  · exact i2 y hy
theorem ren_rows {n : Nat} {P : List Int} {σ : Int → Int} (h : Ren P σ) (hP : PlZ n P) (N : Nat) : ∀ (r met : List Int), (∀ x ∈ r, x ∈ P) → (∀ x ∈ met, x ∈ P) → rowsOf (phi (P.map σ)) N (met.map σ) (r.map σ) = (rowsOf (phi P) N met r).map (List.map σ)
  | [], met, _, _ => rfl
  | l :: r, met, hr, hm => by
    have hl := hr l List.mem_cons_self
    have hr' : ∀ x ∈ r, x ∈ P := fun x hx => hr x (List.mem_cons_of_mem _ hx)
    obtain ⟨o1, o2⟩ := ren_orb h hP N hl
    rw [List.map_cons]
    unfold rowsOf
    by_cases c : l ∈ met
    · rw [if_pos c, if_pos (List.mem_map_of_mem c)]
      exact ren_rows h hP N r met hr' hm
    · have c' : ¬ σ l ∈ met.map σ := fun q => by
        obtain ⟨y, hy, e⟩ := List.mem_map.mp q
        exact c (h.inj y (hm y hy) l hl e ▸ hy)
      rw [if_neg c, if_neg c', o1, ← List.map_append, ren_rows h hP N r (met ++ orb (phi P) N l) hr' fun x hx => ?_]
      · rfl
      · rcases List.mem_append.mp hx with hx | hx
        · exact hm x hx
        · exact o2 x hx
theorem ren_rims {n : Nat} {P : List Int} {σ : Int → Int} (h : Ren P σ) (hP : PlZ n P) : rims (P.map σ) = (rims P).map (List.map σ) := by
  have := ren_rows h hP P.length P [] (fun x hx => hx) (fun x hx => nomatch hx)
  unfold rims
  rw [List.length_map]
  exact this
/-! new letters: the band's at its place, either way -/
def ren (names : List Int) (x : Int) : Int := if 0 < x then names.getD (x - 1).toNat 0 else 0 - names.getD (0 - x - 1).toNat 0
structure Names (n : Nat) (names : List Int) : Prop where
  len : names.length = n
  abs : (names.map Int.natAbs).Perm (List.range' 1 n)
theorem Names.at {n : Nat} {names : List Int} (h : Names n names) {x : Int} (hx : x ≠ 0 ∧ x ≤ n ∧ -(n : Int) ≤ x) : ∃ (i : Nat) (y : Int), i < n ∧ names[i]? = some y ∧ x.natAbs = i + 1 ∧ y ≠ 0 ∧ y ≤ n ∧ -(n : Int) ≤ y ∧ ren names x = if 0 < x then y else -y := by
  have hl := h.len
  have hi : x.natAbs - 1 < names.length := by omega
  refine ⟨x.natAbs - 1, names[x.natAbs - 1], by omega, List.getElem?_eq_getElem hi, by omega, ?_⟩
  have hm : (names[x.natAbs - 1]).natAbs ∈ List.range' 1 n := h.abs.mem_iff.mp (List.mem_map_of_mem (List.getElem_mem hi))
  rw [List.mem_range'_1] at hm
  refine ⟨by omega, by omega, by omega, ?_⟩
  unfold ren
  by_cases c : 0 < x
  · rw [if_pos c, if_pos c, show (x - 1).toNat = x.natAbs - 1 by omega, List.getD_eq_getElem?_getD, List.getElem?_eq_getElem hi]; rfl
  · rw [if_neg c, if_neg c, show (0 - x - 1).toNat = x.natAbs - 1 by omega, List.getD_eq_getElem?_getD, List.getElem?_eq_getElem hi]; exact Int.zero_sub _
theorem ren_neg {names : List Int} {x : Int} (hx : x ≠ 0) : ren names (-x) = -(ren names x) := by
  unfold ren
  by_cases c : 0 < x
  · rw [if_pos c, if_neg (by omega), show (0 - -x - 1).toNat = (x - 1).toNat by omega]; omega
  · rw [if_neg c, if_pos (by omega), show (-x - 1).toNat = (0 - x - 1).toNat by omega]; omega
theorem names_inj {n : Nat} {names : List Int} (h : Names n names) {i j : Nat} {y z : Int} (hi : names[i]? = some y) (hj : names[j]? = some z) (e : y.natAbs = z.natAbs) : i = j := by
  have nd : (names.map Int.natAbs).Nodup := h.abs.nodup_iff.mpr List.nodup_range'
  have h1 : (names.map Int.natAbs)[i]? = some y.natAbs := by rw [List.getElem?_map, hi]; rfl
  have h2 : (names.map Int.natAbs)[j]? = some y.natAbs := by rw [List.getElem?_map, hj, e]; rfl
  have l1 : i < (names.map Int.natAbs).length := by
    by_cases q : i < (names.map Int.natAbs).length
    · exact q
    · rw [List.getElem?_eq_none (by omega)] at h1; cases h1
  exact (List.getElem?_inj l1 nd).mp (h1.trans h2.symm)
theorem ren_inj {n : Nat} {names : List Int} (h : Names n names) {x y : Int} (hx : x ≠ 0 ∧ x ≤ n ∧ -(n : Int) ≤ x) (hy : y ≠ 0 ∧ y ≤ n ∧ -(n : Int) ≤ y) (e : ren names x = ren names y) : x = y := by
  obtain ⟨i, a, hi, ha, ax, a0, _, _, ea⟩ := h.at hx
  obtain ⟨j, b, hj, hb, bx, b0, _, _, eb⟩ := h.at hy
  rw [ea, eb] at e
  have : i = j := names_inj h ha hb (by split at e <;> split at e <;> omega)
  subst this
  rw [ha] at hb
  have := Option.some.inj hb
  subst this
  split at e <;> split at e <;> omega
/-- ahead of the plate: 0 is left -/
def ren0 (names : List Int) (x : Int) : Int := if x = 0 then 0 else ren names x
theorem ren_ok {n : Nat} {P names : List Int} (hP : PlZ n P) (h : Names n names) : Ren P (ren0 names) := ⟨fun x hx y hy e => by
  have h1 := (hP.mem x).mp hx
  have h2 := (hP.mem y).mp hy
  unfold ren0 at e
  rw [if_neg h1.1, if_neg h2.1] at e
  exact ren_inj h h1 h2 e, fun x => by
  unfold ren0
  by_cases c : x = 0
  · subst c; rfl
  · rw [if_neg c, if_neg (by omega), ren_neg c]⟩
theorem ren0_map {n : Nat} {P names r : List Int} (hP : PlZ n P) (hr : ∀ x ∈ r, x ∈ P) : r.map (ren0 names) = r.map (ren names) := List.map_congr_left fun x hx => by
  have := (hP.mem x).mp (hr x hx)
  exact if_neg this.1
theorem ren_plz {n : Nat} {P names : List Int} (hP : PlZ n P) (h : Names n names) : PlZ n (P.map (ren names)) where
  nd := by
    rw [← ren0_map hP fun x hx => hx]
    refine List.pairwise_map.mpr ?_
    have := hP.nd
    refine List.Pairwise.imp_of_mem (fun {a b} ha hb n e => n ((ren_ok hP h).inj a ha b hb e)) this
  len := by rw [List.length_map]; exact hP.len
  mem := fun x => by
    rw [List.mem_map]
    constructor
    · rintro ⟨y, hy, rfl⟩
      obtain ⟨i, a, hi, ha, ax, a0, a1, a2, ea⟩ := h.at ((hP.mem y).mp hy)
      rw [ea]
      split <;> exact ⟨by omega, by omega, by omega⟩
    · intro hx
      have hm : x.natAbs ∈ names.map Int.natAbs := h.abs.mem_iff.mpr (List.mem_range'_1.mpr (by omega))
      obtain ⟨b, hb, eb⟩ := List.mem_map.mp hm
      have hj := List.idxOf_lt_length_iff.mpr hb
      have ej := List.getElem_idxOf hj
      have hl := h.len
      generalize names.idxOf b = j at hj ej
      have p1 : ((j : Int) + 1) ≠ 0 ∧ ((j : Int) + 1) ≤ n ∧ -(n : Int) ≤ (j : Int) + 1 := by omega
      have p2 : (-((j : Int) + 1)) ≠ 0 ∧ (-((j : Int) + 1)) ≤ n ∧ -(n : Int) ≤ -((j : Int) + 1) := by omega
      have e1 : ren names ((j : Int) + 1) = b := by
        unfold ren
        rw [if_pos (by omega), show ((j : Int) + 1 - 1).toNat = j by omega, List.getD_eq_getElem?_getD, List.getElem?_eq_getElem hj, ej]; rfl
      by_cases c : x = b
      · exact ⟨(j : Int) + 1, (hP.mem _).mpr p1, by rw [e1]; exact c.symm⟩
      · exact ⟨-((j : Int) + 1), (hP.mem _).mpr p2, by rw [ren_neg p1.1, e1]; omega⟩
end OR

/-! CO: corners of a plate's ends, joined along arcs and bands: as many kinds as rims. Plain maths. -/
namespace OR
def lab (J : List Int) (i : Nat) : Int := J.getD i 0
def join (J : List Int) (ab : Nat × Nat) : List Int := J.map fun x => if x = lab J ab.1 then lab J ab.2 else x
def joins (prs : List (Nat × Nat)) (J : List Int) : List Int := prs.foldl join J
theorem join_len (J : List Int) (ab : Nat × Nat) : (join J ab).length = J.length := List.length_map _
theorem joins_len : ∀ (prs : List (Nat × Nat)) (J : List Int), (joins prs J).length = J.length
  | [], J => rfl
  | ab :: r, J => (joins_len r (join J ab)).trans (join_len J ab)
theorem join_lab {J : List Int} {ab : Nat × Nat} {i : Nat} (hi : i < J.length) : lab (join J ab) i = if lab J i = lab J ab.1 then lab J ab.2 else lab J i := by
  have e : lab J i = J[i] := by unfold lab; rw [List.getD_eq_getElem?_getD, List.getElem?_eq_getElem hi]; rfl
  have e2 : lab (join J ab) i = if J[i] = lab J ab.1 then lab J ab.2 else J[i] := by
    unfold lab join
    rw [List.getD_eq_getElem?_getD, List.getElem?_map, List.getElem?_eq_getElem hi]; rfl
  rw [e2, e]
theorem joins_sound {α : Type} {c : Nat → α} {N : Nat} : ∀ (prs : List (Nat × Nat)) (J : List Int), J.length = N → (∀ ab ∈ prs, ab.1 < N ∧ ab.2 < N ∧ c ab.1 = c ab.2) →
    (∀ i j, i < N → j < N → lab J i = lab J j → c i = c j) → ∀ i j, i < N → j < N → lab (joins prs J) i = lab (joins prs J) j → c i = c j
  | [], J, _, _, h => h
  | ab :: r, J, hl, hp, h => by
    refine joins_sound r (join J ab) ((join_len J ab).trans hl) (fun q hq => hp q (List.mem_cons_of_mem _ hq)) fun i j hi hj e => ?_
    obtain ⟨a1, a2, a3⟩ := hp ab List.mem_cons_self
    rw [join_lab (by omega), join_lab (by omega)] at e
    by_cases ci : lab J i = lab J ab.1
    · have k1 := h i ab.1 hi a1 ci
      by_cases cj : lab J j = lab J ab.1
      · exact k1.trans (h j ab.1 hj a1 cj).symm
      · rw [if_pos ci, if_neg cj] at e
        exact (k1.trans a3).trans (h ab.2 j a2 hj e)
    · by_cases cj : lab J j = lab J ab.1
      · rw [if_neg ci, if_pos cj] at e
        exact (h i ab.2 hi a2 e).trans (a3.symm.trans (h j ab.1 hj a1 cj).symm)
      · rw [if_neg ci, if_neg cj] at e
        exact h i j hi hj e
theorem joins_keep {N : Nat} {i j : Nat} (hi : i < N) (hj : j < N) : ∀ (prs : List (Nat × Nat)) (J : List Int), J.length = N → lab J i = lab J j → lab (joins prs J) i = lab (joins prs J) j
  | [], J, _, h => h
  | ab :: r, J, hl, h => joins_keep hi hj r (join J ab) ((join_len J ab).trans hl) (by rw [join_lab (by omega), join_lab (by omega), h])
theorem joins_done {N : Nat} : ∀ (prs : List (Nat × Nat)) (J : List Int), J.length = N → (∀ ab ∈ prs, ab.1 < N ∧ ab.2 < N) → ∀ ab ∈ prs, lab (joins prs J) ab.1 = lab (joins prs J) ab.2
  | [], J, _, _, ab, h => nomatch h
  | q :: r, J, hl, hp, ab, h => by
    rcases List.mem_cons.mp h with rfl | h
    · obtain ⟨a1, a2⟩ := hp ab List.mem_cons_self
      refine joins_keep a1 a2 r (join J ab) ((join_len J ab).trans hl) ?_
      rw [join_lab (by omega), join_lab (by omega), if_pos rfl]
      split <;> rfl
    · exact joins_done r (join J q) ((join_len J q).trans hl) (fun x hx => hp x (List.mem_cons_of_mem _ hx)) ab h
/-! the first of each kind -/
def firsts : List Int → List Int → List Int
  | _, [] => []
  | pre, x :: r => if x ∈ pre then firsts (pre ++ [x]) r else x :: firsts (pre ++ [x]) r
theorem firsts_mem {v : Int} : ∀ (rest pre : List Int), v ∈ firsts pre rest ↔ v ∈ rest ∧ v ∉ pre
  | [], pre => by simp [firsts]
  | x :: r, pre => by
    unfold firsts
    by_cases c : x ∈ pre
    · rw [if_pos c, firsts_mem r (pre ++ [x]), List.mem_cons, List.mem_append, List.mem_singleton]
      constructor
      · rintro ⟨h1, h2⟩
        exact ⟨.inr h1, fun q => h2 (.inl q)⟩
      · rintro ⟨rfl | h1, h2⟩
        · exact absurd c h2
        · exact ⟨h1, fun q => q.elim h2 fun e => h2 (e ▸ c)⟩
    · rw [if_neg c, List.mem_cons, firsts_mem r (pre ++ [x]), List.mem_cons, List.mem_append, List.mem_singleton]
      constructor
      · rintro (rfl | ⟨h1, h2⟩)
        · exact ⟨.inl rfl, c⟩
        · exact ⟨.inr h1, fun q => h2 (.inl q)⟩
      · rintro ⟨rfl | h1, h2⟩
        · exact .inl rfl
        · by_cases e : v = x
          · exact .inl e
          · exact .inr ⟨h1, fun q => q.elim h2 e⟩
theorem firsts_nd : ∀ (rest pre : List Int), (firsts pre rest).Nodup
  | [], pre => List.nodup_nil
  | x :: r, pre => by
    unfold firsts
    by_cases c : x ∈ pre
    · rw [if_pos c]; exact firsts_nd r _
    · rw [if_neg c]
      refine List.nodup_cons.mpr ⟨fun q => ((firsts_mem r _).mp q).2 (by simp), firsts_nd r _⟩
/-! rims as kinds -/
theorem find_rim {x : Int} : ∀ {L : List (List Int)} {r : List Int}, L.flatten.Nodup → r ∈ L → x ∈ r → L.find? (fun s => decide (x ∈ s)) = some r
  | s :: t, r, nd, hr, hx => by
    rw [List.flatten_cons] at nd
    by_cases c : x ∈ s
    · rw [List.find?_cons_of_pos (by simpa using c)]
      rcases List.mem_cons.mp hr with e | e
      · rw [e]
      · exact absurd rfl ((List.nodup_append.mp nd).2.2 x c x (List.mem_flatten.mpr ⟨r, e, hx⟩))
    · rw [List.find?_cons_of_neg (by simpa using c)]
      rcases List.mem_cons.mp hr with e | e
      · exact absurd (e ▸ hx) c
      · exact find_rim (List.nodup_append.mp nd).2.1 e hx
theorem link_const {f F : Int → Int} {z : Int} : ∀ {t : List Int} {x : Int}, Link f x t z → (∀ y ∈ x :: t, F (f y) = F y) → ∀ y ∈ t, F y = F x
  | [], x, _, _, y, hy => nomatch hy
  | w :: t, x, l, h, y, hy => by
    have e : F w = F x := by
      have := h x List.mem_cons_self
      rw [l.1] at this; exact this
    rcases List.mem_cons.mp hy with rfl | hy
    · exact e
    · exact (link_const l.2 (fun v hv => h v (List.mem_cons_of_mem _ hv)) y hy).trans e
def arcs (m : Nat) : List (Nat × Nat) := (List.range m).map fun k => (2 * k + 1, 2 * (k + 1) % (2 * m))
def edges (P : List Int) : List (Nat × Nat) := (List.range P.length).map fun k => (2 * k, 2 * P.idxOf (0 - P.getD k 0) + 1)
def J0 (m : Nat) : List Int := (List.range (2 * m)).map fun (i : Nat) => 0 + (i : Int)
theorem J0_len (m : Nat) : (J0 m).length = 2 * m := by unfold J0; rw [List.length_map, List.length_range]
theorem J0_lab {m i : Nat} (h : i < 2 * m) : lab (J0 m) i = i := by
  unfold lab J0
  rw [List.getD_eq_getElem?_getD, List.getElem?_map, List.getElem?_range h]
  show (0 : Int) + (i : Int) = i
  omega
def kinds (P : List Int) : List Int := joins (arcs P.length ++ edges P) (J0 P.length)
theorem getD_idx {P : List Int} {x : Int} (hx : x ∈ P) : P.getD (P.idxOf x) 0 = x := by
  rw [List.getD_eq_getElem?_getD, at_idx hx]; rfl
theorem corners {n : Nat} {P : List Int} (h : PlZ n P) (hn : 1 ≤ n) : (firsts [] (kinds P)).length = (rims P).length := by
  have D := rims_dec h hn
  have nd : (rims P).flatten.Nodup := D.perm.nodup_iff.mpr h.nd
  have hl := h.len
  have neg : ∀ x ∈ P, -x ∈ P := fun x hx => by
    have := (h.mem x).mp hx
    exact (h.mem _).mpr ⟨by omega, by omega, by omega⟩
  have rim_of : ∀ x ∈ P, ∃ r ∈ rims P, x ∈ r := fun x hx => List.mem_flatten.mp (D.perm.mem_iff.mpr hx)
  have inP : ∀ r ∈ rims P, ∀ x ∈ r, x ∈ P := fun r hr x hx => D.perm.mem_iff.mp (List.mem_flatten.mpr ⟨r, hr, hx⟩)
  obtain ⟨cl, ecl⟩ : ∃ cl : Int → Option (List Int), cl = fun x => (rims P).find? fun s => decide (x ∈ s) := ⟨_, rfl⟩
  have cl_at : ∀ r ∈ rims P, ∀ x ∈ r, cl x = some r := fun r hr x hx => by rw [ecl]; exact find_rim nd hr hx
  have cl_phi : ∀ x ∈ P, cl (phi P x) = cl x := fun x hx => by
    obtain ⟨r, hr, hxr⟩ := rim_of x hx
    rw [cl_at r hr x hxr, cl_at r hr _ (cyc_closed (D.cyc r hr) hxr)]
  have at_lt : ∀ k, k < P.length → P.getD k 0 ∈ P ∧ P.idxOf (P.getD k 0) = k := fun k hk => by
    have e : P[k]? = some (P.getD k 0) := by rw [List.getD_eq_getElem?_getD, List.getElem?_eq_getElem hk]; rfl
    exact ⟨List.mem_of_getElem? e, nd_at h.nd e⟩
  -- the kind that each corner must be of
  obtain ⟨c, ec⟩ : ∃ c : Nat → Option (List Int), c = fun i => if i % 2 = 0 then cl (P.getD (i / 2) 0) else cl (P.getD ((i / 2 + 1) % P.length) 0) := ⟨_, rfl⟩
  have c0 : ∀ k, c (2 * k) = cl (P.getD k 0) := fun k => by rw [ec]; show (if 2 * k % 2 = 0 then _ else _) = _; rw [if_pos (by omega), show 2 * k / 2 = k by omega]
  have c1 : ∀ k, c (2 * k + 1) = cl (P.getD ((k + 1) % P.length) 0) := fun k => by rw [ec]; show (if (2 * k + 1) % 2 = 0 then _ else _) = _; rw [if_neg (by omega), show (2 * k + 1) / 2 = k by omega]
  have beh_get : ∀ x ∈ P, P.getD ((P.idxOf x + 1) % P.length) 0 = beh P x := fun x hx => rfl
  have pr : ∀ ab ∈ arcs P.length ++ edges P, ab.1 < 2 * P.length ∧ ab.2 < 2 * P.length ∧ c ab.1 = c ab.2 := fun ab hab => by
    rcases List.mem_append.mp hab with q | q
    · obtain ⟨k, hk, rfl⟩ := List.mem_map.mp q
      have hk := List.mem_range.mp hk
      refine ⟨by show 2 * k + 1 < _; omega, Nat.mod_lt _ (by omega), ?_⟩
      show c (2 * k + 1) = c (2 * (k + 1) % (2 * P.length))
      rw [Nat.mul_mod_mul_left, c0, c1]
    · obtain ⟨k, hk, rfl⟩ := List.mem_map.mp q
      have hk := List.mem_range.mp hk
      obtain ⟨m1, m2⟩ := at_lt k hk
      have m3 : 0 - P.getD k 0 ∈ P := by have := neg _ m1; rw [← Int.zero_sub] at this; exact this
      have hi := List.idxOf_lt_length_iff.mpr m3
      refine ⟨by show 2 * k < _; omega, by show 2 * P.idxOf (0 - P.getD k 0) + 1 < _; omega, ?_⟩
      show c (2 * k) = c (2 * P.idxOf (0 - P.getD k 0) + 1)
      rw [c0, c1, beh_get _ m3, Int.zero_sub]
      exact (cl_phi _ m1).symm
  have jl : (kinds P).length = 2 * P.length := (joins_len _ _).trans (J0_len _)
  have sound := joins_sound (c := c) (N := 2 * P.length) (arcs P.length ++ edges P) (J0 P.length) (J0_len _) pr fun i j hi hj e => by
    rw [J0_lab hi, J0_lab hj] at e
    rw [show i = j by omega]
  have done := joins_done (N := 2 * P.length) (arcs P.length ++ edges P) (J0 P.length) (J0_len _) fun ab hab => ⟨(pr ab hab).1, (pr ab hab).2.1⟩
  have odd : ∀ k, k < P.length → lab (kinds P) (2 * k + 1) = lab (kinds P) (2 * ((k + 1) % P.length)) := fun k hk => by
    have := done (2 * k + 1, 2 * (k + 1) % (2 * P.length)) (List.mem_append.mpr (.inl (List.mem_map.mpr ⟨k, List.mem_range.mpr hk, rfl⟩)))
    rw [Nat.mul_mod_mul_left] at this
    exact this
  have even : ∀ k, k < P.length → lab (kinds P) (2 * k) = lab (kinds P) (2 * P.idxOf (0 - P.getD k 0) + 1) := fun k hk =>
    done (2 * k, 2 * P.idxOf (0 - P.getD k 0) + 1) (List.mem_append.mpr (.inr (List.mem_map.mpr ⟨k, List.mem_range.mpr hk, rfl⟩)))
  obtain ⟨F, eF⟩ : ∃ F : Int → Int, F = fun x => lab (kinds P) (2 * P.idxOf x) := ⟨_, rfl⟩
  have F_phi : ∀ x ∈ P, F (phi P x) = F x := fun x hx => by
    have hi := List.idxOf_lt_length_iff.mpr hx
    have m3 : 0 - x ∈ P := by have := neg _ hx; rw [← Int.zero_sub] at this; exact this
    have hj := List.idxOf_lt_length_iff.mpr m3
    have h1 := even (P.idxOf x) hi
    rw [getD_idx hx, odd _ hj] at h1
    have h2 : P.idxOf (phi P x) = (P.idxOf (0 - x) + 1) % P.length := by
      unfold phi
      rw [← Int.zero_sub]
      exact nd_at h.nd (beh_at h.nd (at_idx m3))
    rw [eF]
    show lab (kinds P) (2 * P.idxOf (phi P x)) = lab (kinds P) (2 * P.idxOf x)
    rw [h2]; exact h1.symm
  have F_rim : ∀ r ∈ rims P, ∀ x ∈ r, ∀ y ∈ r, F x = F y := fun r hr => by
    have hc := D.cyc r hr
    cases r with
    | nil => exact hc.elim
    | cons z t =>
      have k : ∀ y ∈ z :: t, F y = F z := fun y hy => by
        rcases List.mem_cons.mp hy with rfl | hy
        · rfl
        · exact link_const (f := phi P) hc (fun y hy => F_phi y (inP _ hr y hy)) y hy
      exact fun x hx y hy => (k x hx).trans (k y hy).symm
  have F_cl : ∀ x ∈ P, ∀ y ∈ P, F x = F y → cl x = cl y := fun x hx y hy e => by
    have hi := List.idxOf_lt_length_iff.mpr hx
    have hj := List.idxOf_lt_length_iff.mpr hy
    rw [eF] at e
    have := sound (2 * P.idxOf x) (2 * P.idxOf y) (by omega) (by omega) e
    rw [c0, c0, getD_idx hx, getD_idx hy] at this
    exact this
  have hd : ∀ r ∈ rims P, r.headD 0 ∈ r := fun r hr => by
    cases r with
    | nil => exact absurd rfl (D.ne _ hr)
    | cons z t => exact List.mem_cons_self
  have nE : ((rims P).map fun r => F (r.headD 0)).Nodup := by
    refine List.pairwise_map.mpr ?_
    refine List.Pairwise.imp_of_mem (fun {a b} ha hb q e => ?_) (List.pairwise_flatten.mp nd).2
    have h1 := F_cl _ (inP a ha _ (hd a ha)) _ (inP b hb _ (hd b hb)) e
    rw [cl_at a ha _ (hd a ha), cl_at b hb _ (hd b hb)] at h1
    have := Option.some.inj h1
    subst this
    exact q _ (hd a ha) _ (hd a ha) rfl
  have key : (firsts [] (kinds P)).Perm ((rims P).map fun r => F (r.headD 0)) := by
    refine (List.perm_ext_iff_of_nodup (firsts_nd _ _) nE).mpr fun v => ?_
    rw [firsts_mem, List.mem_map]
    constructor
    · rintro ⟨hv, _⟩
      obtain ⟨i, hi, ei⟩ := List.getElem_of_mem hv
      have ev : lab (kinds P) i = v := by unfold lab; rw [List.getD_eq_getElem?_getD, List.getElem?_eq_getElem hi, ei]; rfl
      rw [jl] at hi
      have : ∃ k, k < P.length ∧ lab (kinds P) (2 * k) = v := by
        by_cases q : i % 2 = 0
        · exact ⟨i / 2, by omega, by rw [show 2 * (i / 2) = i by omega]; exact ev⟩
        · refine ⟨(i / 2 + 1) % P.length, Nat.mod_lt _ (by omega), ?_⟩
          rw [← odd (i / 2) (by omega), show 2 * (i / 2) + 1 = i by omega]; exact ev
      obtain ⟨k, hk, ek⟩ := this
      obtain ⟨m1, m2⟩ := at_lt k hk
      obtain ⟨r, hr, hx⟩ := rim_of _ m1
      refine ⟨r, hr, ?_⟩
      rw [F_rim r hr _ (hd r hr) _ hx, eF]
      show lab (kinds P) (2 * P.idxOf (P.getD k 0)) = v
      rw [m2]; exact ek
    · rintro ⟨r, hr, rfl⟩
      refine ⟨?_, List.not_mem_nil⟩
      have hx := inP r hr _ (hd r hr)
      have hi := List.idxOf_lt_length_iff.mpr hx
      rw [eF]
      show lab (kinds P) (2 * P.idxOf (r.headD 0)) ∈ kinds P
      unfold lab
      rw [List.getD_eq_getElem?_getD, List.getElem?_eq_getElem (by rw [jl]; omega)]
      exact List.getElem_mem _
  rw [key.length_eq, List.length_map]
end OR

namespace CV
open PySem PySem.Spec PyProof.Rows L2 DL FG
/-! from K14 -/
section
variable {p : Ret → List Sl → Prop}
abbrev lstD (ns : List Int) : D := .list (ns.map PyData.int)
def pk : Nat → List Int → List (Key × D)
  | _, [] => []
  | k, x :: r => (.inl x, .int (k : Int)) :: pk (k + 1) r
theorem places_lc {a : D} {fin : List D → DL.Env → Prop} : ∀ (P : List Int) (k : Nat) (acc : List D), fin (acc ++ (pk k P).map DL.pairD) [.d a, .un, .un] →
    lcW (.tup [.nm 1, .nm 2]) tYesD (eTup (aCons (eV 2) (aCons (eV 1) aNil))) [1, 2] fin (enumD k (P.map PyData.int)) acc [.d a, .un, .un]
  | [], k, acc, h => by
    have : acc ++ (pk k []).map DL.pairD = acc := List.append_nil acc
    rw [this] at h; exact h
  | x :: r, k, acc, h => by
    refine ⟨sz (by show 2 ≤ 1000; omega), ?_⟩
    refine places_lc r (k + 1) (acc ++ [.tuple [.int x, .int (k : Int)]]) ?_
    rw [List.append_assoc]; exact h
theorem pk_any {x : Int} : ∀ {k : Nat} {P : List Int}, ((pk k P).any fun kv => decide (kv.1 = Sum.inl x)) = true → x ∈ P
  | _, [], h => by cases h
  | k, y :: r, h => by
    have h : (decide ((Sum.inl y : Key) = Sum.inl x) || (pk (k + 1) r).any fun kv => decide (kv.1 = Sum.inl x)) = true := h
    rw [Bool.or_eq_true, decide_eq_true_eq] at h
    rcases h with h | h
    · injection h with h; exact h ▸ List.mem_cons_self
    · exact List.mem_cons_of_mem _ (pk_any h)
theorem pk_app : ∀ (k : Nat) (P Q : List Int), pk k (P ++ Q) = pk k P ++ pk (k + P.length) Q
  | k, [], Q => rfl
  | k, x :: r, Q => by
    have := pk_app (k + 1) r Q
    show _ :: pk (k + 1) (r ++ Q) = _ :: (pk (k + 1) r ++ pk (k + (r.length + 1)) Q)
    rw [this, show k + 1 + r.length = k + (r.length + 1) by omega]
theorem pk_merge : ∀ (P Q : List Int), (Q ++ P).Nodup → mergeD (pk 0 Q) (pk Q.length P) = pk 0 (Q ++ P)
  | [], Q, _ => by rw [List.append_nil]; rfl
  | x :: r, Q, nd => by
    have hx : x ∉ Q := fun h => by
      rw [List.nodup_append] at nd
      exact nd.2.2 x h x List.mem_cons_self rfl
    have e : putD (pk 0 Q) (.inl x) (.int ((Q.length : Nat) : Int)) = pk 0 (Q ++ [x]) := by
      unfold putD
      rw [if_neg fun c => hx (pk_any c), pk_app, Nat.zero_add]
      rfl
    have := pk_merge r (Q ++ [x]) (by rw [List.append_assoc]; exact nd)
    rw [List.length_append, List.append_assoc] at this
    show mergeD (putD (pk 0 Q) (.inl x) (.int ((Q.length : Nat) : Int))) (pk (Q.length + 1) r) = _
    rw [e]; exact this
theorem pk_val {x : Int} : ∀ {k : Nat} {P : List Int}, x ∈ P → valD (pk k P) (.inl x) = some (.int ((k + P.idxOf x : Nat) : Int))
  | _, [], h => by cases h
  | k, y :: r, h => by
    unfold valD
    show ((((Sum.inl y : Key), PyData.int (k : Int)) :: pk (k + 1) r).find? fun kv => decide (kv.1 = Sum.inl x)).map (·.2) = _
    by_cases c : y = x
    · subst c
      rw [List.find?_cons_of_pos (by simp), List.idxOf_cons_self]
      rfl
    · rw [List.find?_cons_of_neg (by simp [c]), List.idxOf_cons, show (y == x) = false from beq_eq_false_iff_ne.mpr c]
      have := pk_val (k := k + 1) (P := r) ((List.mem_cons.mp h).resolve_left fun e => c e.symm)
      unfold valD at this
      rw [this, show k + 1 + r.idxOf x = k + (r.idxOf x + 1) by omega]
      rfl
theorem get_at {P : List Int} {x : Int} {q : D → Prop} (hx : x ∈ P) (h : q (.int (RY.at_ P x))) : wGetK (pk 0 P) (.int x) q :=
  ⟨.inl x, _, rfl, pk_val hx, by rw [Nat.zero_add]; exact h⟩
structure OkP (P : List Int) : Prop where
  nd : P.Nodup
  two : 2 ≤ P.length
  most : P.length ≤ 100
structure OkR (P R : List Int) : Prop where
  ne : R ≠ []
  most : R.length ≤ 300
  mem : ∀ x ∈ R, x ∈ P ∧ -x ∈ P
theorem turned_eq {R : List Int} {a : Nat} (h : a ≤ R.length) : R.drop a ++ R.take a = (List.range R.length).map (RY.fw R a) := by
  apply List.ext_getElem?
  intro i
  rw [List.getElem?_append, List.getElem?_map, List.length_drop]
  by_cases hi : i < R.length
  · rw [List.getElem?_range hi]
    show _ = some (RY.fw R a i)
    unfold RY.fw
    have hm : (a + i) % R.length < R.length := Nat.mod_lt _ (by omega)
    rw [List.getD_eq_getElem?_getD, List.getElem?_eq_getElem hm]
    show _ = some R[(a + i) % R.length]
    rw [← List.getElem?_eq_getElem hm]
    split
    · rename_i h1
      rw [List.getElem?_drop, Nat.mod_eq_of_lt (by omega)]
    · rename_i h1
      rw [List.getElem?_take, if_pos (by omega), Nat.mod_eq_sub_mod (by omega), Nat.mod_eq_of_lt (by omega)]
      congr 1; omega
  · rw [if_neg (by omega), List.getElem?_take, if_neg (by omega), List.getElem?_eq_none (by rw [List.length_range]; omega)]
    rfl
theorem line_eq {R : List Int} {a : Nat} (h : a ≤ R.length) : cutD (R.map PyData.int) (some (a : Int)) none ++ cutD (R.map PyData.int) none (some (a : Int)) = ((List.range R.length).map (RY.fw R a)).map PyData.int := by
  rw [cut_from, cut_to, ← List.map_drop, ← List.map_take, ← List.map_append, turned_eq h]
theorem range'_map_cons (s : Nat → Int) (k n : Nat) : (List.range' k (n + 1)).map s = s k :: (List.range' (k + 1) n).map s := by
  rw [List.range'_succ]; rfl
theorem fmod_nat {i : Int} {n : Nat} : i.fmod (n : Int) = i % (n : Int) := Int.fmod_eq_emod_of_nonneg i (by omega)
def numD (P R : List Int) (a : Nat) : D := .tuple [.int (RY.num P R a), .int (RY.bot P R)]
theorem e_undone (ns : List Int) : ns.reverse.map (fun x => PyData.int (-x)) = (ns.reverse.map fun x => -x).map PyData.int := by simp
theorem e_undone0 (ns : List Int) : ns.reverse.map (fun x => PyData.int (0 - x)) = (ns.reverse.map fun x => -x).map PyData.int := by simp
/-- a row undone -/
def und (ns : List Int) : List Int := ns.reverse.map fun x => -x
theorem und_len (ns : List Int) : (und ns).length = ns.length := by simp [und]
theorem und_mem {ns : List Int} {x : Int} (h : x ∈ und ns) : -x ∈ ns := by
  obtain ⟨y, hy, rfl⟩ := List.mem_map.mp h
  rw [Int.neg_neg]; exact List.mem_reverse.mp hy
theorem OkR.und {P R : List Int} (h : OkR P R) : OkR P (und R) where
  ne := fun e => h.ne (List.eq_nil_of_length_eq_zero (by rw [← und_len, e]; rfl))
  most := by rw [und_len]; exact h.most
  mem := fun x hx => by
    have := h.mem _ (und_mem hx)
    rw [Int.neg_neg] at this
    exact ⟨this.2, this.1⟩
/-- the number of the ray behind -/
def backD (P R : List Int) (a : Nat) : D := numD P (und R) (R.length - 1 - a)
theorem canc_if {ns : List Int} {K : D → D → Prop} {qf : Prop} (h1 : ∀ x m, ns = x :: (m ++ [-x]) → K (.int x) (.int (-x))) (h2 : ∀ x y, ¬ Canc ns → x ≠ -y → K (.int x) (.int y)) (h3 : ¬ Canc ns → qf) :
    if decide ((1 : Int) < (ns.map PyData.int).length) = true then wD (atI (ns.map PyData.int) 0) (fun a => wD (atI (ns.map PyData.int) (-1)) fun b => K a b) else qf := by
  refine iteD (fun hlen => ?_) (fun hlen => ?_)
  · rw [List.length_map] at hlen
    cases ns with
    | nil => simp at hlen
    | cons x r =>
      refine wD_at (atI_zero x r) (wD_at (atI_back (x :: r) (by simp)) ?_)
      have hr : r ≠ [] := fun e => by rw [e] at hlen; simp at hlen
      have el : (x :: r).getLast (by simp) = r.getLast hr := by rw [List.getLast_cons hr]
      rw [el]
      have e3 := List.dropLast_concat_getLast hr
      by_cases c : x = -(r.getLast hr)
      · have := h1 x r.dropLast (by rw [show -x = r.getLast hr by omega, e3])
        rw [show r.getLast hr = -x by omega]; exact this
      · refine h2 _ _ (fun ⟨z, m, e⟩ => ?_) c
        have e4 : x = z := by injection e
        have e5 : r = m ++ [-z] := by injection e
        subst e5
        rw [List.getLast_append] at c
        simp at c
        exact c e4
  · exact h3 fun ⟨z, m, e⟩ => hlen (by rw [e]; simp; omega)
theorem min_rots (ns : List Int) {q : D → Prop} (h : q (tupD (minrot ns))) : wMin1 [.list (((List.range (max 1 ns.length)).map (rot ns)).map tupD)] q := by
  refine .inr ⟨_, rfl, by simp; omega, fun w hw hmin => ?_⟩
  obtain ⟨k, _, rfl⟩ := List.mem_map.mp hw
  have : rot ns k = minrot ns := minrot_unique (isRot_rot ns k) fun b hb => by
    obtain ⟨j, hj, rfl⟩ := isRot_at hb
    exact hmin _ (List.mem_map.mpr ⟨j, by simp; omega, rfl⟩)
  rw [this]; exact h
def okL' (n : Int) (x : Int) : Prop := x ≠ 0 ∧ x ≤ n ∧ -n ≤ x
theorem wInts_of {ns : List Int} {q : List Int → Prop} (h : q ns) : wInts (intsOf (ns.map PyData.int)) q := by
  rw [intsOf_map]; exact h
theorem flat_all (P : List Int) : (P.map PyData.int).all flatD = true := by rw [List.all_map]; exact List.all_eq_true.mpr fun _ _ => rfl
theorem first_get {P : List Int} {x : Int} (hx : x ∈ P) : (P.map PyData.int)[P.idxOf x]? = some (.int x) := by
  have hl := List.idxOf_lt_length_iff.mpr hx
  rw [List.getElem?_map, List.getElem?_eq_getElem hl, List.getElem_idxOf]; rfl
theorem first_eq (x : Int) : PyData.eqv (.int x) (.int x) = true := by rw [eqv_int]; exact decide_eq_true rfl
theorem first_min {P : List Int} {x : Int} (hx : x ∈ P) (m : Nat) (d : D) (hm : m < P.idxOf x) (hd : (P.map PyData.int)[m]? = some d) : PyData.eqv d (.int x) = false := by
  have hl := List.idxOf_lt_length_iff.mpr hx
  rw [List.getElem?_map, List.getElem?_eq_getElem (by omega)] at hd
  have hd := Option.some.inj hd
  subst hd
  rw [eqv_int]
  refine decide_eq_false fun e => ?_
  have := List.not_of_lt_findIdx (p := (· == x)) (xs := P) (i := m) (by rw [List.idxOf] at hm; exact hm)
  rw [e] at this
  simp at this
theorem fw_at {R : List Int} {a k : Nat} (hR : R ≠ []) : atI R ((((a + k) % R.length : Nat)) : Int) = some (RY.fw R a k) := by
  have l := List.length_pos_iff.mpr hR
  have hl : (a + k) % R.length < R.length := Nat.mod_lt _ l
  rw [atI_at _ _ hl]
  unfold RY.fw
  rw [List.getD_eq_getElem?_getD, List.getElem?_eq_getElem hl]; rfl
theorem bw_math {R : List Int} {a k : Nat} (hR : R ≠ []) (ha : a < R.length) : ∃ j : Nat, ((a : Int) - (k : Int)) % (R.length : Int) = (j : Int) ∧ atI R (j : Int) = some (-(RY.fw (und R) (R.length - 1 - a) k)) := by
  have l := List.length_pos_iff.mpr hR
  have ht : (R.length - 1 - a + k) % R.length < R.length := Nat.mod_lt _ l
  have hd := Nat.div_add_mod (R.length - 1 - a + k) R.length
  generalize hT : (R.length - 1 - a + k) % R.length = t at *
  generalize (R.length - 1 - a + k) / R.length = q at hd
  refine ⟨R.length - 1 - t, ?_, ?_⟩
  · have e : (a : Int) - (k : Int) = ((R.length - 1 - t : Nat) : Int) + (R.length : Int) * (-(q : Int)) := by
      have : ((R.length * q : Nat) : Int) = (R.length : Int) * (q : Int) := Int.natCast_mul _ _
      rw [Int.mul_neg]
      omega
    rw [e, Int.add_mul_emod_self_left, Int.emod_eq_of_lt (by omega) (by omega)]
  · have hj : R.length - 1 - t < R.length := by omega
    rw [atI_at _ _ hj]
    unfold RY.fw
    rw [und_len, hT, List.getD_eq_getElem?_getD]
    have : (und R)[t]? = some (-(R[R.length - 1 - t])) := by
      unfold und
      rw [List.getElem?_map, List.getElem?_reverse ht, List.getElem?_eq_getElem hj]; rfl
    rw [this]
    show some _ = some (- -_)
    rw [Int.neg_neg]
theorem s_at {s : Nat → Int} {n k : Nat} (hk : k < n) : atI ((List.range n).map s) (k : Int) = some (s k) := by
  refine atI_nat ?_
  rw [List.getElem?_map, List.getElem?_range hk]; rfl
theorem two_one {α : Type} (g : α → Bool) (e f : α) : decide ((([e, f].filter g).length : Int) = 1) = (g e != g f) := by
  cases h1 : g e <;> cases h2 : g f <;> simp [List.filter, h1, h2]
/-- strictly between the places of two ends -/
def btw (P : List Int) (a c e : Int) : Bool := decide (min (RY.at_ P a) (RY.at_ P c) < RY.at_ P e) && decide (RY.at_ P e < max (RY.at_ P a) (RY.at_ P c))
def lts (P : List Int) (a c e : Int) : Bool := decide (RY.st P a e < RY.st P a c)
theorem bool_iff {a b c d : Bool} (h : (a = true ↔ ¬ (b = true)) ↔ (c = true ↔ ¬ (d = true))) : (a != b) = (c != d) := by
  cases a <;> cases b <;> cases c <;> cases d <;> simp_all
theorem btw_iff {P : List Int} {a c e : Int} : btw P a c e = true ↔ min (RY.at_ P a) (RY.at_ P c) < RY.at_ P e ∧ RY.at_ P e < max (RY.at_ P a) (RY.at_ P c) := by
  unfold btw; rw [Bool.and_eq_true, decide_eq_true_eq, decide_eq_true_eq]
theorem btw_swap {P : List Int} {a c e f : Int} (m : a ∈ P ∧ c ∈ P ∧ e ∈ P ∧ f ∈ P) (d : a ≠ c ∧ a ≠ e ∧ a ≠ f ∧ c ≠ e ∧ c ≠ f ∧ e ≠ f) : (btw P e f a != btw P e f c) = (btw P a c e != btw P a c f) := by
  obtain ⟨m1, m2, m3, m4⟩ := m
  obtain ⟨d1, d2, d3, d4, d5, d6⟩ := d
  have q1 := mt (RY.at_inj m1 m2) d1
  have q2 := mt (RY.at_inj m1 m3) d2
  have q3 := mt (RY.at_inj m1 m4) d3
  have q4 := mt (RY.at_inj m2 m3) d4
  have q5 := mt (RY.at_inj m2 m4) d5
  have q6 := mt (RY.at_inj m3 m4) d6
  apply bool_iff
  rw [btw_iff, btw_iff, btw_iff, btw_iff]
  generalize RY.at_ P a = i at *
  generalize RY.at_ P c = j at *
  generalize RY.at_ P e = k at *
  generalize RY.at_ P f = l at *
  omega
theorem st_case {P : List Int} {a e : Int} (ma : a ∈ P) (me : e ∈ P) : (RY.at_ P a ≤ RY.at_ P e ∧ RY.st P a e = RY.at_ P e - RY.at_ P a) ∨ (RY.at_ P e < RY.at_ P a ∧ RY.st P a e = RY.at_ P e - RY.at_ P a + P.length) := by
  have h1 := RY.at_lt ma
  have h2 := RY.at_lt me
  have h3 := RY.at_nn P a
  have h4 := RY.at_nn P e
  unfold RY.st
  by_cases h : RY.at_ P a ≤ RY.at_ P e
  · exact .inl ⟨h, Int.emod_eq_of_lt (by omega) (by omega)⟩
  · refine .inr ⟨by omega, ?_⟩
    have := Int.add_mul_emod_self_left (RY.at_ P e - RY.at_ P a) P.length 1
    rw [Int.mul_one] at this
    rw [← this]
    exact Int.emod_eq_of_lt (by omega) (by omega)
theorem lts_btw {P : List Int} {a c e f : Int} (m : a ∈ P ∧ c ∈ P ∧ e ∈ P ∧ f ∈ P) (d : a ≠ c ∧ a ≠ e ∧ a ≠ f ∧ c ≠ e ∧ c ≠ f ∧ e ≠ f) : (lts P a c e != lts P a c f) = (btw P a c e != btw P a c f) := by
  obtain ⟨m1, m2, m3, m4⟩ := m
  obtain ⟨d1, d2, d3, d4, d5, d6⟩ := d
  have q1 := mt (RY.at_inj m1 m2) d1
  have q2 := mt (RY.at_inj m1 m3) d2
  have q3 := mt (RY.at_inj m1 m4) d3
  have q4 := mt (RY.at_inj m2 m3) d4
  have q5 := mt (RY.at_inj m2 m4) d5
  apply bool_iff
  rw [btw_iff, btw_iff]
  unfold lts
  rw [decide_eq_true_eq, decide_eq_true_eq]
  have r1 := st_case m1 m2
  have r2 := st_case m1 m3
  have r3 := st_case m1 m4
  have l1 := RY.at_lt m2
  have l2 := RY.at_lt m3
  have l3 := RY.at_lt m4
  have l4 := RY.at_lt m1
  have l5 := RY.at_nn P a
  have l6 := RY.at_nn P c
  have l7 := RY.at_nn P e
  have l8 := RY.at_nn P f
  generalize RY.st P a c = u at *
  generalize RY.st P a e = v at *
  generalize RY.st P a f = w at *
  generalize RY.at_ P a = i at *
  generalize RY.at_ P c = j at *
  generalize RY.at_ P e = k at *
  generalize RY.at_ P f = l at *
  omega
theorem perm_two {x y : Int} {ns : List Int} (h : ns.Perm [x, y]) (s : ns.Pairwise (· ≤ ·)) : ns = [min x y, max x y] := by
  have hl := h.length_eq
  match ns, hl with
  | [u, v], _ =>
    have s : u ≤ v := by simpa using s
    have h1 := h.mem_iff (a := u)
    have h2 := h.mem_iff (a := v)
    have h3 := h.symm.mem_iff (a := x)
    have h4 := h.symm.mem_iff (a := y)
    simp at h1 h2 h3 h4
    have : u = min x y ∧ v = max x y := by omega
    rw [this.1, this.2]
theorem seqI {j n : Nat} (h : j < n) : seqIndex? (j : Int) n = some j := by
  unfold seqIndex?
  simp only []
  split <;> simp_all <;> omega
theorem perm_erase {xs ys : List Int} {j : Nat} (hj : j < xs.length) (h : ys.Perm (xs.eraseIdx j)) : (xs[j] :: ys).Perm xs := by
  have h1 : (xs[j] :: ys).Perm (xs[j] :: xs.eraseIdx j) := List.Perm.cons _ h
  refine h1.trans ?_
  rw [List.eraseIdx_eq_take_drop_succ]
  have h2 : (xs[j] :: (xs.take j ++ xs.drop (j + 1))).Perm (xs.take j ++ xs[j] :: xs.drop (j + 1)) := List.perm_middle.symm
  rw [← List.drop_eq_getElem_cons hj, List.take_append_drop] at h2
  exact h2
theorem map_erase (xs : List Int) (j : Nat) : (xs.map PyData.int).eraseIdx j = (xs.eraseIdx j).map PyData.int := by
  rw [List.eraseIdx_eq_take_drop_succ, List.eraseIdx_eq_take_drop_succ, List.map_append, List.map_take, List.map_drop]
def endsL : Nat → List Int
  | 0 => []
  | k + 1 => endsL k ++ [(k : Int) + 1, 0 - (k : Int) - 1]
theorem endsL_len : ∀ n, (endsL n).length = 2 * n
  | 0 => rfl
  | n + 1 => by unfold endsL; rw [List.length_append, endsL_len n]; simp; omega
theorem endsL_mem : ∀ (n : Nat) (x : Int), x ∈ endsL n ↔ okL' n x
  | 0, x => by unfold endsL okL'; simp; omega
  | n + 1, x => by
    unfold endsL
    rw [List.mem_append, endsL_mem n x]
    unfold okL'
    simp
    omega
theorem endsL_nd : ∀ n, (endsL n).Nodup
  | 0 => List.nodup_nil
  | n + 1 => by
    unfold endsL
    refine List.nodup_append.mpr ⟨endsL_nd n, by simp; omega, fun a ha b hb e => ?_⟩
    have := (endsL_mem n a).mp ha
    unfold okL' at this
    simp at hb
    omega
structure PlN (n : Int) (P : List Int) : Prop where
  ok : OkP P
  len : P.length = 2 * n.toNat
  mem : ∀ x, x ∈ P ↔ okL' n x
structure RgN (n : Int) (k : Nat) (A : List Int) : Prop where
  ne : A ≠ []
  len : A.length ≤ k
  mem : ∀ x ∈ A, okL' n x
theorem und_eq0 (ns : List Int) : ns.reverse.map (fun x => PyData.int (0 - x)) = (und ns).map PyData.int := by simp [und]
theorem okL_und {n : Int} {ns : List Int} (h : ∀ x ∈ ns, okL' n x) : ∀ x ∈ und ns, okL' n x := fun x hx => by
  have := h _ (und_mem hx)
  unfold okL' at *
  omega
theorem OkR.of {n : Int} {k : Nat} {P A : List Int} (hP : PlN n P) (hA : RgN n k A) (hk : k ≤ 300) : OkR P A where
  ne := hA.ne
  most := Nat.le_trans hA.len hk
  mem := fun x hx => by
    have := hA.mem x hx
    refine ⟨(hP.mem x).mpr this, (hP.mem _).mpr ?_⟩
    unfold okL' at *
    omega
def Big (P R : List Int) : Prop := (P.length : Int) ^ R.length ≤ 2 ^ 62
theorem Big.und {P R : List Int} (h : Big P R) : Big P (und R) := by unfold Big; rw [und_len]; exact h
theorem num_fit {P R : List Int} (oP : OkP P) (hB : Big P R) (a : Nat) : FitB 1 402 (numD P R a) := by
  have h0 := RY.num_bound (P := P) (R := R) (fun e => by have := oP.two; rw [e] at this; simp at this) a
  have h2 := RY.pow_pos' (b := (P.length : Int)) (by have := oP.two; omega) R.length
  unfold Big at hB
  have b1 : (RY.num P R a).natAbs < 2 ^ 200 := by have : (2 : Nat) ^ 62 < 2 ^ 200 := by decide +kernel
                                                  omega
  have b2 : (RY.bot P R).natAbs < 2 ^ 200 := by have : (2 : Nat) ^ 62 < 2 ^ 200 := by decide +kernel
                                                unfold RY.bot; omega
  exact FitB.tuple (FitsB.cons (FitB.int b1) (FitsB.cons (FitB.int b2) (FitsB.nil (w := 0))))
theorem back_fit {P R : List Int} (oP : OkP P) (hB : Big P R) (a : Nat) : FitB 1 402 (backD P R a) := num_fit oP hB.und _
theorem eqvB_self {c w : Nat} {d : D} (h : FitB c w d) : PyData.eqv d d = true := PySem.SeqAt.eqv_refl d h.lay
theorem backD_eq (P R : List Int) (a : Nat) : backD P R a = .tuple [.int (RY.V P.length (RY.dig P (RY.fw (und R) (R.length - 1 - a))) R.length), .int ((P.length : Int) ^ R.length - 1)] := by
  unfold backD numD RY.num RY.bot
  rw [und_len]
end
section
variable {p : Ret → List Sl → Prop}
variable {P R : List Int} {a : Nat} {En : EndsD} {c5 c6 c7 c8 c9 : Sl}
theorem pair_fit (oP : OkP P) (hB : Big P R) : FitB 2 806 (.list [numD P R a, backD P R a]) :=
  FitB.list (FitsB.cons (num_fit oP hB a) (FitsB.cons (back_fit oP hB a) (FitsB.nil (w := 0))))
theorem next_mod (hm : 0 < R.length) : ((a : Int) + 1).fmod (R.length : Int) = (((a + 1) % R.length : Nat) : Int) := by
  rw [fmod_nat]
  exact (Int.natCast_emod (a + 1) R.length).symm
end
theorem big_of {P R : List Int} (h1 : P.length ≤ 8) (h2 : R.length ≤ 14) : Big P R := by
  unfold Big
  have : P.length ^ R.length ≤ 8 ^ 14 := Nat.le_trans (Nat.pow_le_pow_left h1 _) (Nat.pow_le_pow_right (by decide) h2)
  have e : ((P.length : Nat) : Int) ^ R.length = ((P.length ^ R.length : Nat) : Int) := (Int.natCast_pow _ _).symm
  have e2 : (8 : Nat) ^ 14 = 4398046511104 := by decide
  rw [e]; omega
def rayD (P : List Int) (M : Nat) (R : List Int) (a : Nat) : D := .tuple [lstD ((List.range M).map (RY.fw R a)), numD P R a]
structure IsRay (P : List Int) (M : Nat) (R : List Int) : Prop where
  ok : OkR P R
  big : Big P R
  far : 2 * R.length + 2 ≤ M
  most : M ≤ 100
section
variable {P A B : List Int} {n : Int} {M : Nat} {En : EndsD} {c0 c2 c3 c4 c5 c6 c7 c8 c9 c10 c11 c12 c13 c14 c15 : Sl}
theorem rays_rg {te : ET} {R : List Int} {f : Nat → D} {fin : List D → DL.Env → Prop} {ρ : DL.Env} (hi : ρ[13]? = some .un) (hb : ∀ i, i < R.length → ∀ q : Op → DL.Env → Prop, q (.v (f i)) (ρ.set 13 (.d (.int (i : Int)))) → te (ρ.set 13 (.d (.int (i : Int)))) q)
    (h : fin ((List.range R.length).map f) ρ) : lcW (.nm 13) tYesD te [13] fin (rangeD 0 R.length) [] ρ := by
  refine lcW_mapE (fun (i : Nat) => PyData.int (0 + (i : Int))) f (List.range R.length) (rangeD_eq 0 _) hi (fun i hi q hq => ?_) h
  have hi := List.mem_range.mp hi
  rw [Int.zero_add] at *
  exact hb i hi q hq
theorem big_bot {P R : List Int} (hP : 2 ≤ P.length) (h : Big P R) : -(2 ^ 64) < RY.bot P R ∧ RY.bot P R < 2 ^ 64 := by
  have := RY.pow_pos' (b := (P.length : Int)) (by omega) R.length
  unfold Big at h
  unfold RY.bot
  omega
theorem big_num {P R : List Int} (hP : 2 ≤ P.length) (h : Big P R) (a : Nat) : -(2 ^ 64) < RY.num P R a ∧ RY.num P R a < 2 ^ 64 := by
  have := RY.num_bound (P := P) (R := R) (fun e => by rw [e] at hP; simp at hP) a
  unfold Big at h
  omega
end
section
variable {P A B : List Int} {n : Int} {M : Nat} {En : EndsD} {c0 c2 c3 c4 c5 c6 c7 c8 c9 c10 c11 c12 c13 c14 c15 x1 : Sl}
def RayL (P : List Int) (M : Nat) (xs : List D) : Prop := ∀ x ∈ xs, ∃ R a, IsRay P M R ∧ x = rayD P M R a
theorem cut4a (a c e f : Int) : cutD [PyData.int a, .int c, .int e, .int f] none (some 2) = [.int a, .int c] := rfl
theorem cut4b (a c e f : Int) : cutD [PyData.int a, .int c, .int e, .int f] (some 2) none = [.int e, .int f] := rfl
structure Four (P : List Int) (a c e f : Int) : Prop where
  m : a ∈ P ∧ c ∈ P ∧ e ∈ P ∧ f ∈ P
  d : a ≠ c ∧ a ≠ e ∧ a ≠ f ∧ c ≠ e ∧ c ≠ f ∧ e ≠ f
end
theorem toldP : OkP [1, 2, -1, -2] := ⟨by decide, by decide, by decide⟩
theorem toldR : OkR [1, 2, -1, -2] [1, 2] := ⟨by decide, by decide, by decide⟩
theorem told : numD [1, 2, -1, -2] [1, 2] 0 = .tuple [.int 13, .int 15] := by
  have e1 : RY.num [1, 2, -1, -2] [1, 2] 0 = 13 := by decide +kernel
  have e2 : RY.bot [1, 2, -1, -2] [1, 2] = 15 := by decide +kernel
  unfold numD
  rw [e1, e2]
/-! from K15 -/
section
variable {p : Ret → List Sl → Prop}
theorem minrot_nil : minrot [] = [] := by decide +kernel
theorem turns_lc {fin : List D → DL.Env → Prop} (ns : List Int) (hl : ns.length ≤ 1000) (h : fin (((List.range ns.length).map (rot ns)).map tupD) [.d (tupD ns), .un]) :
    lcW (.nm 1) tYesD (e2 wAdd (eSl (eV 0) (oSome (eV 1)) oNone) (eSl (eV 0) oNone (oSome (eV 1)))) [1] fin (rangeD 0 ns.length) [] [.d (tupD ns), .un] := by
  refine lcW_mapE (fun (i : Nat) => PyData.int (0 + (i : Int))) (fun i => tupD (rot ns i)) (List.range ns.length) (rangeD_eq 0 _) rfl (fun i hi q hq => ?_) ?_
  · rw [Int.zero_add] at *
    show (cutD (ns.map PyData.int) (some (i : Int)) none).length + (cutD (ns.map PyData.int) none (some (i : Int))).length ≤ sizeLine ∧ q (.v (.tuple (cutD (ns.map PyData.int) (some (i : Int)) none ++ cutD (ns.map PyData.int) none (some (i : Int))))) [.d (tupD ns), .d (.int (i : Int))]
    have hq : q (.v (tupD (rot ns i))) [.d (tupD ns), .d (.int (i : Int))] := hq
    rw [cut_from, cut_to, ← List.map_drop, ← List.map_take, ← List.map_append]
    refine ⟨?_, hq⟩
    simp only [List.length_map, List.length_drop, List.length_take]
    exact sz (by omega)
  · rw [List.map_map] at h; exact h
theorem min_turns (ns : List Int) (hn : ns ≠ []) {q : D → Prop} (h : q (tupD (minrot ns))) : wMin1 [.list (((List.range ns.length).map (rot ns)).map tupD)] q := by
  have hp := List.length_pos_iff.mpr hn
  refine .inr ⟨_, rfl, by simp; omega, fun w hw hmin => ?_⟩
  obtain ⟨k, _, rfl⟩ := List.mem_map.mp hw
  have : rot ns k = minrot ns := minrot_unique (isRot_rot ns k) fun b hb => by
    obtain ⟨j, hj, rfl⟩ := isRot_at hb
    exact hmin _ (List.mem_map.mpr ⟨j, by simp; omega, rfl⟩)
  rw [this]; exact h
theorem ring_tail (ns : List Int) (hl : ns.length ≤ 1000) (En : EndsD) (h : ∀ ρ, ρ.take 1 = [.d (tupD ns)] → En.rt (.d (tupD (minrot ns))) ρ) :
    (sRet (eIf (tB' (e2 wNe (eV 0) (eTup aNil))) (eB wMin1 (aCons (eLc (iRg1 (eB wLen (aCons (eV 0) aNil))) (.nm 1) tYesD (e2 wAdd (eSl (eV 0) (oSome (eV 1)) oNone) (eSl (eV 0) oNone (oSome (eV 1)))) [1]) aNil)) (eTup aNil))) En [.d (tupD ns), .un] := by
  have el : (((ns.map PyData.int).length : Nat) : Int) = (ns.length : Nat) := by rw [List.length_map]
  refine ⟨Nat.zero_le _, okTI _, okTI [], ifEq (congrArg (!·) (eqv_tupD ns [])) (iteN (fun c => ?_) fun c => ?_)⟩
  · refine ⟨⟨by decide, by decide, by rw [el]; omega, by rw [el]; omega⟩, by rw [el]; exact sz (by omega), ?_⟩
    rw [el, show ((ns.length : Int) - 0).toNat = ns.length by omega]
    exact turns_lc ns hl (min_turns ns c (h _ rfl))
  · subst c
    have := h [.d (tupD []), .un] rfl
    rw [minrot_nil] at this
    exact ⟨Nat.zero_le _, this⟩
def plL (n : Int) : List Int := (List.range n.toNat).map (fun (i : Nat) => 1 + (i : Int)) ++ (List.range n.toNat).map fun (i : Nat) => 0 - n + (i : Int)
theorem plL_len (n : Int) : (plL n).length = 2 * n.toNat := by unfold plL; rw [List.length_append, List.length_map, List.length_map, List.length_range]; omega
theorem plL_mem {n x : Int} (hn : 0 ≤ n) : x ∈ plL n ↔ okL' n x := by
  unfold plL okL'
  rw [List.mem_append, List.mem_map, List.mem_map]
  constructor
  · rintro (⟨i, hi, rfl⟩ | ⟨i, hi, rfl⟩)
    · have := List.mem_range.mp hi; omega
    · have := List.mem_range.mp hi; omega
  · rintro ⟨h0, h1, h2⟩
    by_cases c : 0 < x
    · exact .inl ⟨(x - 1).toNat, List.mem_range.mpr (by omega), by omega⟩
    · exact .inr ⟨(x + n).toNat, List.mem_range.mpr (by omega), by omega⟩
theorem nd_map {f : Nat → Int} {k : Nat} (h : ∀ i j, f i = f j → i = j) : ((List.range k).map f).Nodup :=
  List.Pairwise.map f (fun _ _ n e => n (h _ _ e)) List.nodup_range
theorem plL_nd (n : Int) : (plL n).Nodup := by
  unfold plL
  refine List.nodup_append.mpr ⟨nd_map fun i j e => by omega, nd_map fun i j e => by omega, fun a ha b hb e => ?_⟩
  obtain ⟨i, hi, rfl⟩ := List.mem_map.mp ha
  obtain ⟨j, hj, rfl⟩ := List.mem_map.mp hb
  have := List.mem_range.mp hi
  have := List.mem_range.mp hj
  omega
theorem plL_d (n : Int) : rangeD 1 n.toNat ++ rangeD (0 - n) n.toNat = (plL n).map PyData.int := by
  unfold plL
  rw [List.map_append, List.map_map, List.map_map]; rfl
theorem t1 {n : Int} : (n + 1 - 1).toNat = n.toNat := by omega
theorem t2 {n : Int} : (0 - (0 - n)).toNat = n.toNat := by omega
end
section
variable {p : Ret → List Sl → Prop}
variable {n : Int} {R : List Int} {En : EndsD} {c3 c4 c5 c6 : Sl}
theorem rep_ints (k : Nat) (xs : List Int) : (List.replicate k (xs.map PyData.int)).flatten = ((List.replicate k xs).flatten).map PyData.int := by
  rw [← List.map_replicate, ← List.map_flatten]
theorem rep_len (k : Nat) (xs : List Int) : (List.replicate k xs).flatten.length = k * xs.length := by
  rw [List.length_flatten, List.map_replicate, List.sum_replicate_nat]
theorem rep_mem {k : Nat} {xs : List Int} {x : Int} (h : x ∈ (List.replicate k xs).flatten) : x ∈ xs := by
  obtain ⟨l, hl, hx⟩ := List.mem_flatten.mp h
  rw [(List.mem_replicate.mp hl).2] at hx
  exact hx
end
section
variable {p : Ret → List Sl → Prop}
theorem nd_at {P : List Int} (nd : P.Nodup) {i : Nat} {c : Int} (h : P[i]? = some c) : P.idxOf c = i := by
  have hi : i < P.length := by
    by_cases q : i < P.length
    · exact q
    · rw [List.getElem?_eq_none (by omega)] at h; cases h
  rw [List.getElem?_eq_getElem hi] at h
  have h := Option.some.inj h
  have hc : c ∈ P := h ▸ List.getElem_mem hi
  have hl := List.idxOf_lt_length_iff.mpr hc
  have e := List.getElem_idxOf hl
  exact (List.getElem_inj nd).mp (e.trans h.symm)
theorem step_mod (i m b : Nat) : ((((i + m) % b : Nat) : Int) + 1).fmod (b : Int) = (((i + (m + 1)) % b : Nat) : Int) := by
  have e : ((i + m) % b + 1) % b = (i + (m + 1)) % b := by rw [Nat.mod_add_mod, Nat.add_assoc]
  rw [fmod_nat, ← e]
  exact (Int.natCast_emod ((i + m) % b + 1) b).symm
theorem st_nat {P : List Int} {a c : Int} (ha : a ∈ P) (hc : c ∈ P) : ∃ s : Nat, RY.st P a c = (s : Int) ∧ s < P.length ∧ (P.idxOf a + s) % P.length = P.idxOf c ∧ ∀ m, m ≤ s → (P.idxOf a + m) % P.length = P.idxOf c → m = s := by
  have h1 := List.idxOf_lt_length_iff.mpr ha
  have h2 := List.idxOf_lt_length_iff.mpr hc
  unfold RY.st RY.at_
  generalize P.idxOf a = i at *
  generalize P.idxOf c = j at *
  generalize P.length = b at *
  by_cases c : i ≤ j
  · refine ⟨j - i, ?_, by omega, ?_, fun m hm e => ?_⟩
    · rw [Int.emod_eq_of_lt (by omega) (by omega)]; omega
    · rw [Nat.mod_eq_of_lt (by omega)]; omega
    · rw [Nat.mod_eq_of_lt (by omega)] at e; omega
  · refine ⟨j + b - i, ?_, by omega, ?_, fun m hm e => ?_⟩
    · have := Int.add_mul_emod_self_left ((j : Int) - i) b 1
      rw [Int.mul_one] at this
      rw [← this, Int.emod_eq_of_lt (by omega) (by omega)]; omega
    · rw [Nat.mod_eq_sub_mod (by omega), Nat.mod_eq_of_lt (by omega)]; omega
    · by_cases q : i + m < b
      · rw [Nat.mod_eq_of_lt q] at e; omega
      · rw [Nat.mod_eq_sub_mod (by omega), Nat.mod_eq_of_lt (by omega)] at e; omega
theorem pairT_fit {P R : List Int} {a : Nat} (oP : OkP P) (hB : Big P R) : FitB 2 806 (.tuple [numD P R a, backD P R a]) :=
  FitB.tuple (FitsB.cons (num_fit oP hB a) (FitsB.cons (back_fit oP hB a) (FitsB.nil (w := 0))))
theorem pairT_fit' {P R : List Int} {a : Nat} (oP : OkP P) (hB : Big P R) : FitB 2 806 (.tuple [backD P R a, numD P R a]) :=
  FitB.tuple (FitsB.cons (back_fit oP hB a) (FitsB.cons (num_fit oP hB a) (FitsB.nil (w := 0))))
theorem idx_filter {P : List Int} {g : Int → Bool} {x : Int} (hg : g x = true) : x ∈ P → (P.filter g).idxOf x = ((P.take (P.idxOf x)).filter g).length := by
  induction P with
  | nil => intro h; cases h
  | cons y r ih =>
    intro h
    by_cases c : y = x
    · subst c
      rw [List.filter_cons_of_pos hg, List.idxOf_cons_self, List.idxOf_cons_self]; rfl
    · have hr : x ∈ r := (List.mem_cons.mp h).resolve_left fun e => c e.symm
      have hb : (y == x) = false := beq_eq_false_iff_ne.mpr c
      have e1 : (y :: r).idxOf x = r.idxOf x + 1 := by rw [List.idxOf_cons, hb]; rfl
      rw [e1, List.take_succ_cons]
      cases hy : g y with
      | true =>
        rw [List.filter_cons_of_pos hy, List.filter_cons_of_pos hy, List.length_cons, ← ih hr, List.idxOf_cons, hb]; rfl
      | false =>
        rw [List.filter_cons_of_neg (by simp [hy]), List.filter_cons_of_neg (by simp [hy])]
        exact ih hr
theorem mem_take_at {P : List Int} (nd : P.Nodup) {y : Int} {k : Nat} : y ∈ P.take k ↔ y ∈ P ∧ P.idxOf y < k := by
  constructor
  · intro h
    refine ⟨List.mem_of_mem_take h, ?_⟩
    obtain ⟨i, hi⟩ := List.mem_iff_getElem?.mp h
    rw [List.getElem?_take] at hi
    split at hi
    · rw [nd_at nd hi]; assumption
    · cases hi
  · rintro ⟨h1, h2⟩
    have hl := List.idxOf_lt_length_iff.mpr h1
    refine List.mem_iff_getElem?.mpr ⟨P.idxOf y, ?_⟩
    rw [List.getElem?_take, if_pos h2, List.getElem?_eq_getElem hl, List.getElem_idxOf]
def cnt (P : List Int) (x y : Int) : Nat := if RY.at_ P y < RY.at_ P x then 1 else 0
theorem cnt_case (P : List Int) (x y : Int) : (RY.at_ P y < RY.at_ P x ∧ cnt P x y = 1) ∨ (¬ RY.at_ P y < RY.at_ P x ∧ cnt P x y = 0) := by
  unfold cnt
  by_cases c : RY.at_ P y < RY.at_ P x
  · exact .inl ⟨c, if_pos c⟩
  · exact .inr ⟨c, if_neg c⟩
theorem rank_eq {P : List Int} (nd : P.Nodup) {a c e f x : Int} (q : Four P a c e f) (hx : x ∈ [a, c, e, f]) : (P.filter fun y => decide (y ∈ [a, c, e, f])).idxOf x = cnt P x a + cnt P x c + cnt P x e + cnt P x f := by
  have hm : ∀ y ∈ [a, c, e, f], y ∈ P := fun y hy => by
    simp only [List.mem_cons, List.not_mem_nil, or_false] at hy
    rcases hy with rfl | rfl | rfl | rfl
    · exact q.m.1
    · exact q.m.2.1
    · exact q.m.2.2.1
    · exact q.m.2.2.2
  rw [idx_filter (decide_eq_true hx) (hm x hx)]
  have pm : ((P.take (P.idxOf x)).filter fun y => decide (y ∈ [a, c, e, f])).Perm ([a, c, e, f].filter fun y => decide (RY.at_ P y < RY.at_ P x)) := by
    refine (List.perm_ext_iff_of_nodup ?_ ?_).mpr fun y => ?_
    · exact (nd.sublist (List.take_sublist _ _)).filter _
    · have := q.d
      have hnd : [a, c, e, f].Nodup := by simp; omega
      exact List.Pairwise.filter _ hnd
    · rw [List.mem_filter, List.mem_filter, mem_take_at nd, decide_eq_true_eq, decide_eq_true_eq]
      unfold RY.at_
      constructor
      · rintro ⟨⟨h1, h2⟩, h3⟩; exact ⟨h3, by omega⟩
      · rintro ⟨h1, h2⟩; exact ⟨⟨hm y h1, by omega⟩, h1⟩
  rw [pm.length_eq]
  unfold cnt
  by_cases h1 : RY.at_ P a < RY.at_ P x <;> by_cases h2 : RY.at_ P c < RY.at_ P x <;> by_cases h3 : RY.at_ P e < RY.at_ P x <;> by_cases h4 : RY.at_ P f < RY.at_ P x <;> simp [List.filter, h1, h2, h3, h4]
end
section
variable {P A B R T : List Int} {n : Int} {a i : Nat} {En : EndsD} {c0 x1 c2 c3 c4 c5 c6 c7 c8 c9 c10 c11 c12 c13 c14 c15 c16 c17 c18 c19 c20 c21 c22 : Sl}
def thrD (P R : List Int) (a : Nat) (ha : a < R.length) : D := if 0 < R[a] then .tuple [numD P R a, backD P R a] else .tuple [backD P R a, numD P R a]
end
theorem fw0_at {T : List Int} {j : Nat} (hj : j < T.length) : atI T (j : Int) = some (RY.fw T j 0) := by
  have h : T ≠ [] := fun e => by rw [e] at hj; cases hj
  have := fw_at (R := T) (a := j) (k := 0) h
  rw [Nat.add_zero, Nat.mod_eq_of_lt hj] at this
  exact this
section
variable {P A B R T : List Int} {n : Int} {a i : Nat} {En : EndsD} {c0 x1 c2 c3 c4 c5 c6 c7 c8 c9 c10 c11 c12 c13 c14 c15 c16 c17 c18 c19 c20 c21 c22 : Sl}
theorem some_lc {fin : List D → DL.Env → Prop} (lT : T.length ≤ 1000) (hi : i < R.length) (h : ∀ js : List Nat, (∀ j ∈ js, j < T.length ∧ RY.fw T j 0 = RY.fw R i 0) → fin (js.map fun (j : Nat) => PyData.int (j : Int)) [c0, x1, c2, c3, c4, .d (tupD R), c6, c7, c8, c9, c10, c11, .d (tupD T), .d (.int i), c14, .un, c16, c17, c18, c19, c20, c21, c22]) :
    lcW (.nm 15) (tB' (e2 wEq (e2 wIx (eV 12) (eV 15)) (e2 wIx (eV 5) (eV 13)))) (eV 15) [15] fin (rangeD 0 T.length) [] [c0, x1, c2, c3, c4, .d (tupD R), c6, c7, c8, c9, c10, c11, .d (tupD T), .d (.int i), c14, .un, c16, c17, c18, c19, c20, c21, c22] := by
  have er : rangeD 0 T.length = (List.range T.length).map fun (j : Nat) => PyData.int (j : Int) := by
    rw [rangeD_eq]
    exact List.map_congr_left fun j _ => by rw [Int.zero_add]
  refine lcW_filterE (i := 15) (fun (j : Nat) => PyData.int (j : Int)) (fun (j : Nat) => PyData.int (j : Int)) (fun j => decide (RY.fw T j 0 = RY.fw R i 0)) (List.range T.length) er rfl (fun j hj q hq => ?_) (fun j hj _ q hq => by exact hq) ?_
  · have hj := List.mem_range.mp hj
    exact wD_at (fw0_at hj) (wD_at (fw0_at hi) hq)
  · refine h _ fun j hj => ?_
    obtain ⟨h1, h2⟩ := List.mem_filter.mp hj
    exact ⟨List.mem_range.mp h1, of_decide_eq_true h2⟩
theorem cut3 (js : List Nat) (f : Nat → D) : cutD (js.map f) none (some 3) = (js.take 3).map f := by
  rw [show (3 : Int) = ((3 : Nat) : Int) from rfl, cut_to, List.map_take]
end
section
variable {P A B R T : List Int} {n : Int} {a i : Nat} {En : EndsD} {c0 x1 c2 c3 c4 c5 c6 c7 c8 c9 c10 c11 c12 c13 c14 c15 c16 c17 c18 c19 c20 c21 c22 : Sl}
variable {p q r s : Int}
theorem any_mem (x : Int) (xs : List Int) : anyD (.int x) (xs.map PyData.int) = decide (x ∈ xs) := by
  unfold anyD
  rw [List.any_map]
  induction xs with
  | nil => rfl
  | cons y r ih =>
    rw [List.any_cons, ih]
    show (PyData.eqv (.int y) (.int x) || decide (x ∈ r)) = decide (x ∈ y :: r)
    rw [eqv_int]
    by_cases h : y = x
    · subst h; simp
    · have : ¬ x = y := fun e => h e.symm
      simp [h, this]
theorem line_lc {fin : List D → DL.Env → Prop} (xs : List Int) (h : fin ((xs.filter fun y => decide (y ∈ [p, q, r, s])).map PyData.int) [c0, x1, c2, c3, c4, c5, c6, c7, c8, c9, c10, c11, c12, c13, c14, c15, c16, .d (.int p), .d (.int q), .d (.int r), .d (.int s), c21, .un]) :
    lcW (.nm 22) (tB' (e2 wIn (eV 22) (eTup (aCons (eV 17) (aCons (eV 18) (aCons (eV 19) (aCons (eV 20) aNil))))))) (eV 22) [22] fin (xs.map PyData.int) [] [c0, x1, c2, c3, c4, c5, c6, c7, c8, c9, c10, c11, c12, c13, c14, c15, c16, .d (.int p), .d (.int q), .d (.int r), .d (.int s), c21, .un] := by
  refine lcW_filterE (i := 22) PyData.int PyData.int (fun y => decide (y ∈ [p, q, r, s])) xs rfl rfl (fun x hx Q hq => ?_) (fun x hx _ Q hq => by exact hq) h
  refine ⟨sz (by show 4 ≤ 1000; omega), ⟨rfl, rfl⟩, ?_⟩
  have := any_mem x [p, q, r, s]
  rw [← this] at hq
  exact hq
def toldD : D := .list [.tuple [.int 2, .int 3], .tuple [.int 45, .int 63]]
theorem toldR1 : OkR [1, 2, -1, -2] [1] := ⟨by decide, by decide, by decide⟩
theorem toldR2 : OkR [1, 2, -1, -2] [1, 1, 2] := ⟨by decide, by decide, by decide⟩
theorem told1 : numD [1, 2, -1, -2] [1] 0 = .tuple [.int 2, .int 3] := by
  have e1 : RY.num [1, 2, -1, -2] [1] 0 = 2 := by decide +kernel
  have e2 : RY.bot [1, 2, -1, -2] [1] = 3 := by decide +kernel
  unfold numD
  rw [e1, e2]
theorem told2 : numD [1, 2, -1, -2] [1, 1, 2] 0 = .tuple [.int 45, .int 63] := by
  have e1 : RY.num [1, 2, -1, -2] [1, 1, 2] 0 = 45 := by decide +kernel
  have e2 : RY.bot [1, 2, -1, -2] [1, 1, 2] = 63 := by decide +kernel
  unfold numD
  rw [e1, e2]
end
namespace K15
section
variable {p : Ret → List Sl → Prop}
def btw (P : List Int) (a c e : Int) : Bool := decide (min (RY.at_ P a) (RY.at_ P c) < RY.at_ P e) && decide (RY.at_ P e < max (RY.at_ P a) (RY.at_ P c))
theorem pair_fit {P R : List Int} {a : Nat} (oP : OkP P) (hB : Big P R) : FitB 2 806 (.list [numD P R a, backD P R a]) :=
  FitB.list (FitsB.cons (num_fit oP hB a) (FitsB.cons (back_fit oP hB a) (FitsB.nil (w := 0))))
end
section
variable {P A B R T : List Int} {n : Int} {a i : Nat} {En : EndsD} {c0 x1 c2 c3 c4 c5 c6 c7 c8 c9 c10 c11 c12 c13 c14 c15 c16 c17 c18 c19 c20 c21 c22 : Sl}
variable {p q r s : Int}
theorem big_of {P R : List Int} (h1 : P.length ≤ 8) (h2 : R.length ≤ 18) : Big P R := by
  unfold Big
  have : P.length ^ R.length ≤ 8 ^ 18 := Nat.le_trans (Nat.pow_le_pow_left h1 _) (Nat.pow_le_pow_right (by decide) h2)
  have e : ((P.length : Nat) : Int) ^ R.length = ((P.length ^ R.length : Nat) : Int) := (Int.natCast_pow _ _).symm
  have e2 : (8 : Nat) ^ 18 = 18014398509481984 := by decide
  rw [e]; omega
end
end K15
/-! from K12 -/
section
variable {p : Ret → List Sl → Prop}
theorem und_is (ns : List Int) : OR.und ns = undone ns := rfl
theorem low_back (a : List Int) : ∀ v : List Int, low (a ++ v ++ undone v) = low a := by
  intro v
  induction v generalizing a with
  | nil => rw [undone_nil, List.append_nil, List.append_nil]
  | cons x v ih =>
    rw [undone_cons, ← List.append_assoc, low_snoc, show a ++ x :: v = (a ++ [x]) ++ v by simp, ih (a ++ [x]), low_snoc]
    exact sr_back (red_low a) x
theorem ring_rot (u v : List Int) : ring (u ++ v) = ring (v ++ u) := by
  have h := ring_conj v (u ++ v)
  rw [← h, ← ring_low]
  have : low (v ++ (u ++ v) ++ undone v) = low (v ++ u) := by
    have := low_back (v ++ u) v
    rw [← this]; simp
  rw [this, ring_low]
theorem ring_und (r : List Int) : ring (undone (ring r)) = ring (undone r) := by
  rw [ring_undone_of]
  have : ring (undone (low r)) = ring (undone r) := by
    have h1 := ring_undone_of r
    have h2 := ring_undone_of (low r)
    rw [ring_low, low_low] at h2
    -- undone of a row and of what is left of it
    have key : ∀ ns : List Int, low (undone (low ns)) = low (undone ns) := fun ns => by
      have a1 : low (undone (low ns) ++ ns ++ undone ns) = low (undone (low ns)) := low_back _ _
      have a2 : low (undone (low ns) ++ ns) = [] := by
        rw [← low_right]
        have := low_back [] (undone (low ns))
        rw [undone_undone, List.nil_append] at this
        exact this
      have a3 : low ((undone (low ns) ++ ns) ++ undone ns) = low (undone ns) := by rw [← low_left, a2, List.nil_append]
      exact a1.symm.trans a3
    rw [← ring_low, key, ring_low]
  exact this
theorem link_red {f : Int → Int} {P : List Int} (hf : ∀ x ∈ P, f x ≠ -x) : ∀ {t : List Int} {x z : Int}, x ∈ P → (∀ y ∈ t, y ∈ P) → OR.Link f x t z → Red (x :: t)
  | [], x, z, _, _, _ => red_one x
  | y :: t, x, z, hx, ht, l => by
    have ih := link_red hf (ht y List.mem_cons_self) (fun w hw => ht w (List.mem_cons_of_mem _ hw)) l.2
    have := red_join (red_one x) ih fun w h1 h2 => by
      simp at h1 h2
      subst h1
      exact hf x hx (l.1.trans h2)
    exact this
theorem phi_ne {n : Nat} {P : List Int} (h : OR.PlZ n P) (hn : 1 ≤ n) : ∀ x ∈ P, OR.phi P x ≠ -x := fun x hx => by
  have := (h.mem x).mp hx
  exact OR.beh_ne h.nd (by have := h.len; omega) ((h.mem (-x)).mpr ⟨by omega, by omega, by omega⟩)
theorem rims_red {n : Nat} {P : List Int} (h : OR.PlZ n P) (hn : 1 ≤ n) : ∀ r ∈ OR.rims P, Red r ∧ r ≠ [] ∧ r.length ≤ P.length ∧ (∀ x ∈ r, x ∈ P) := fun r hr => by
  have D := OR.rims_dec h hn
  have hc := D.cyc r hr
  have hm : ∀ x ∈ r, x ∈ P := fun x hx => D.perm.mem_iff.mp (List.mem_flatten.mpr ⟨r, hr, hx⟩)
  refine ⟨?_, D.ne r hr, ?_, hm⟩
  · cases r with
    | nil => exact hc.elim
    | cons x t => exact link_red (phi_ne h hn) (hm x List.mem_cons_self) (fun y hy => hm y (List.mem_cons_of_mem _ hy)) hc
  · obtain ⟨A, B, e⟩ := List.append_of_mem hr
    rw [← D.perm.length_eq, e, List.flatten_append, List.flatten_cons]
    simp only [List.length_append]; omega
theorem rims_ne {n : Nat} {P : List Int} (h : OR.PlZ n P) (hn : 1 ≤ n) : ∀ r ∈ OR.rims P, ring r ≠ [] := fun r hr => by
  obtain ⟨h1, h2, _⟩ := rims_red h hn r hr
  rw [ring_red h1]
  intro e
  have := (minrot_rot (core r)).len
  rw [e] at this
  exact core_ne h1 h2 (List.eq_nil_of_length_eq_zero this)
theorem beh_atI {P : List Int} {x : Int} (nd : P.Nodup) (hx : x ∈ P) : atI P (((P.idxOf x + 1) % P.length : Nat) : Int) = some (OR.beh P x) := atI_nat (OR.beh_at nd (OR.at_idx hx))
def hasK (kvs : List (Key × D)) (k : Key) : Bool := (valD kvs k).isSome
theorem hasK_nil (k : Key) : hasK [] k = false := rfl
theorem hasK_cons (q : Key × D) (r : List (Key × D)) (k : Key) : hasK (q :: r) k = (decide (q.1 = k) || hasK r k) := by
  unfold hasK valD
  by_cases c : q.1 = k
  · rw [List.find?_cons_of_pos (by simp [c])]; simp [c]
  · rw [List.find?_cons_of_neg (by simp [c])]; simp [c]
theorem hasK_any : ∀ (kvs : List (Key × D)) (k : Key), (kvs.any fun kv => decide (kv.1 = k)) = hasK kvs k
  | [], _ => rfl
  | q :: r, k => by rw [List.any_cons, hasK_cons, hasK_any r k]
theorem hasK_app : ∀ (a b : List (Key × D)) (k : Key), hasK (a ++ b) k = (hasK a k || hasK b k)
  | [], b, k => by rw [hasK_nil]; rfl
  | q :: r, b, k => by rw [List.cons_append, hasK_cons, hasK_cons, hasK_app r b k, Bool.or_assoc]
theorem hasK_map (d : D) (j : Key) : ∀ (kvs : List (Key × D)) (k : Key), hasK (kvs.map fun kv => if kv.1 = j then (kv.1, d) else kv) k = hasK kvs k
  | [], _ => rfl
  | q :: r, k => by
    rw [List.map_cons, hasK_cons, hasK_cons, hasK_map d j r k]
    split <;> rfl
theorem hasK_put (kvs : List (Key × D)) (j : Key) (d : D) (k : Key) : hasK (putD kvs j d) k = (hasK kvs k || decide (j = k)) := by
  unfold putD
  split
  · rename_i h
    rw [hasK_any] at h
    rw [hasK_map]
    by_cases c : j = k
    · subst c; rw [h]; rfl
    · rw [decide_eq_false c, Bool.or_false]
  · rw [hasK_app, hasK_cons, hasK_nil, Bool.or_false]
theorem hasK_merge : ∀ (more kvs : List (Key × D)) (k : Key), hasK (mergeD kvs more) k = (hasK kvs k || hasK more k)
  | [], kvs, k => by rw [hasK_nil, Bool.or_false]; rfl
  | q :: r, kvs, k => by
    show hasK (mergeD (putD kvs q.1 q.2) r) k = _
    rw [hasK_merge r, hasK_put, hasK_cons, Bool.or_assoc]
theorem len_put (kvs : List (Key × D)) (j : Key) (d : D) : (putD kvs j d).length ≤ kvs.length + 1 := by
  unfold putD
  split
  · rw [List.length_map]; omega
  · rw [List.length_append]; simp
theorem len_merge : ∀ (more kvs : List (Key × D)), (mergeD kvs more).length ≤ kvs.length + more.length
  | [], kvs => Nat.le_refl _
  | q :: r, kvs => by
    have h1 := len_merge r (putD kvs q.1 q.2)
    have h2 := len_put kvs q.1 q.2
    show (mergeD (putD kvs q.1 q.2) r).length ≤ _
    rw [List.length_cons]; omega
def tk (row : List Int) : List (Key × D) := row.map fun x => (.inl x, .bool true)
theorem hasK_tk (row : List Int) (x : Int) : hasK (tk row) (.inl x) = decide (x ∈ row) := by
  induction row with
  | nil => rfl
  | cons y r ih =>
    show hasK ((Sum.inl y, PyData.bool true) :: tk r) (.inl x) = _
    rw [hasK_cons, ih]
    by_cases c : y = x
    · subst c; simp
    · have : ¬ x = y := fun e => c e.symm
      simp [c, this]
theorem mark_lc {a0 a1 a2 a3 : Sl} {fin : List D → DL.Env → Prop} (row : List Int) (h : fin ((tk row).map DL.pairD) [a0, a1, a2, a3, .d (tupD row), .un]) :
    lcW (.nm 5) tYesD (eTup (aCons (eV 5) (aCons (eK (.bool true)) aNil))) [5] fin (row.map PyData.int) [] [a0, a1, a2, a3, .d (tupD row), .un] := by
  refine lcW_mapE (i := 5) PyData.int (fun x => .tuple [.int x, .bool true]) row rfl rfl (fun x hx q hq => ⟨sz (by show 2 ≤ 1000; omega), hq⟩) ?_
  have : (tk row).map DL.pairD = row.map fun x => PyData.tuple [.int x, .bool true] := by unfold tk; rw [List.map_map]; rfl
  rw [← this]; exact h
theorem sorted_uniq : ∀ {a b rows rows' : List (List Int)}, sortedRows a rows → sortedRows b rows' → rows.Perm rows' → a = b := by
  intro a b rows rows' ha hb hp
  have hab : a.Perm b := ha.1.trans (hp.trans hb.1.symm)
  have h1 := ha.2
  have h2 := hb.2
  clear ha hb hp
  induction a generalizing b with
  | nil => exact (List.Perm.eq_nil hab.symm).symm
  | cons x r ih =>
    cases b with
    | nil => exact absurd (List.Perm.eq_nil hab) (by simp)
    | cons y t =>
      obtain ⟨p1, p2⟩ := List.pairwise_cons.mp h1
      obtain ⟨q1, q2⟩ := List.pairwise_cons.mp h2
      have e : x = y := by
        have m1 : x ∈ y :: t := hab.mem_iff.mp List.mem_cons_self
        have m2 : y ∈ x :: r := hab.mem_iff.mpr List.mem_cons_self
        rcases List.mem_cons.mp m1 with e | m1
        · exact e
        · rcases List.mem_cons.mp m2 with e | m2
          · exact e.symm
          · exact DL.lexLt_eq _ _ (q1 x m1) (p1 y m2)
      subst e
      rw [ih hab.cons_inv p2 q2]
/-- the sorted rows -/
theorem type_math {n m : Nat} (h1 : m ≤ n + 1) (h2 : (m + n) % 2 = 1) : ((1 + ((2 * n : Nat) : Int).fdiv 2 - (m : Int)).fdiv 2) = (((n + 1 - m) / 2 : Nat) : Int) := by
  rw [Int.fdiv_eq_ediv_of_nonneg _ (by omega), Int.fdiv_eq_ediv_of_nonneg _ (by omega)]
  omega
theorem cut_last (f : List Int) : cutD (f.map PyData.int) (some (-1)) none = (f.getLast?.toList).map PyData.int := by
  unfold DL.cutD
  rw [HT.sIx_none, sIx_neg1, List.length_map]
  cases h : f.getLast? with
  | none =>
    have : f = [] := List.getLast?_eq_none_iff.mp h
    subst this; rfl
  | some x =>
    have hne : f ≠ [] := fun e => by rw [e] at h; cases h
    have hx : f.getLast hne = x := by rw [List.getLast?_eq_some_getLast hne] at h; exact Option.some.inj h
    have e := List.dropLast_concat_getLast hne
    rw [hx] at e
    obtain ⟨g, rfl⟩ : ∃ g, f = g ++ [x] := ⟨f.dropLast, e.symm⟩
    rw [← List.map_drop, show (g ++ [x]).length - 1 = g.length by simp, List.drop_left, List.length_append]
    simp
def zl (n : Nat) : List Int := ((List.range (2 * n + 1)).map fun (i : Nat) => 0 - (n : Int) + (i : Int)).filter fun x => !decide (x = 0)
theorem zl_mem {n : Nat} {x : Int} : x ∈ zl n ↔ x ≠ 0 ∧ x ≤ n ∧ -(n : Int) ≤ x := by
  unfold zl
  rw [List.mem_filter, List.mem_map]
  constructor
  · rintro ⟨⟨i, hi, rfl⟩, h⟩
    have := List.mem_range.mp hi
    simp at h
    omega
  · rintro ⟨h1, h2, h3⟩
    exact ⟨⟨(x + n).toNat, List.mem_range.mpr (by omega), by omega⟩, by simp [h1]⟩
theorem zl_nd (n : Nat) : (zl n).Nodup := List.Pairwise.filter _ (List.Pairwise.map _ (fun _ _ n e => n (by omega)) List.nodup_range)
theorem zl_len (n : Nat) : (zl n).length = 2 * n := by
  -- as many as in -n .. -1 and 1 .. n
  have hp : (zl n).Perm ((List.range n).map (fun (i : Nat) => 1 + (i : Int)) ++ (List.range n).map fun (i : Nat) => -1 - (i : Int)) := by
    refine (List.perm_ext_iff_of_nodup (zl_nd n) ?_).mpr fun x => ?_
    · refine List.nodup_append.mpr ⟨List.Pairwise.map _ (fun _ _ n e => n (by omega)) List.nodup_range, List.Pairwise.map _ (fun _ _ n e => n (by omega)) List.nodup_range, fun a ha b hb e => ?_⟩
      obtain ⟨i, _, rfl⟩ := List.mem_map.mp ha
      obtain ⟨j, _, rfl⟩ := List.mem_map.mp hb
      omega
    · rw [zl_mem, List.mem_append, List.mem_map, List.mem_map]
      constructor
      · rintro ⟨h1, h2, h3⟩
        by_cases c : 0 < x
        · exact .inl ⟨(x - 1).toNat, List.mem_range.mpr (by omega), by omega⟩
        · exact .inr ⟨(-1 - x).toNat, List.mem_range.mpr (by omega), by omega⟩
      · rintro (⟨i, hi, rfl⟩ | ⟨i, hi, rfl⟩)
        · have := List.mem_range.mp hi; omega
        · have := List.mem_range.mp hi; omega
  rw [hp.length_eq, List.length_append, List.length_map, List.length_map, List.length_range]; omega
theorem zl_plz {n : Nat} {P : List Int} (h : P.Perm (zl n)) : OR.PlZ n P := ⟨h.nodup_iff.mpr (zl_nd n), by rw [h.length_eq, zl_len], fun x => by rw [h.mem_iff, zl_mem]⟩
theorem plz_zl {n : Nat} {P : List Int} (h : OR.PlZ n P) : P.Perm (zl n) := (List.perm_ext_iff_of_nodup h.nd (zl_nd n)).mpr fun x => by rw [h.mem x, zl_mem]
theorem zl_lc {i : Nat} {te : ET} {fin : List D → DL.Env → Prop} {ρ : DL.Env} (n : Nat) (hi : ρ[i]? = some .un) (hte : ∀ (x : Int) (q : Op → DL.Env → Prop), q (.v (.int x)) (ρ.set i (.d (.int x))) → te (ρ.set i (.d (.int x))) q)
    (tt : ETT) (htt : ∀ (x : Int) (q : Bool → DL.Env → Prop), q (!decide (x = 0)) (ρ.set i (.d (.int x))) → tt (ρ.set i (.d (.int x))) q) (h : fin ((zl n).map PyData.int) ρ) : lcW (.nm i) tt te [i] fin (rangeD (0 - (n : Int)) (2 * n + 1)) [] ρ := by
  have e : rangeD (0 - (n : Int)) (2 * n + 1) = ((List.range (2 * n + 1)).map fun (i : Nat) => 0 - (n : Int) + (i : Int)).map PyData.int := by rw [rangeD_eq, List.map_map]; rfl
  rw [e]
  exact lcW_filterE PyData.int PyData.int (fun x => !decide (x = 0)) _ rfl hi (fun x _ q hq => htt x q hq) (fun x _ _ q hq => hte x q hq) h
def plain (h m : Nat) : List Int := ((List.range h).map fun (k : Nat) => [2 * (k : Int) + 1, 2 * (k : Int) + 2, -(2 * (k : Int) + 1), -(2 * (k : Int) + 2)]).flatten ++ ((List.range (m - 1)).map fun (k : Nat) => [2 * (h : Int) + 1 + (k : Int), -(2 * (h : Int) + 1 + (k : Int))]).flatten
def plzB (n : Nat) (P : List Int) : Bool := decide (P.Perm (zl n))
def plainB : Bool := (List.range 7).all fun h => (List.range 14).all fun m => !(decide (1 ≤ m) && decide (2 ≤ 2 * h + m) && decide (2 * h + m ≤ 13)) || (decide ((plain h m).Perm (zl (2 * h + m - 1))) && decide ((OR.rims (plain h m)).length = m))
end
theorem plainB_ok : plainB = true := by decide +kernel
theorem plain_ok {h m n : Nat} (hm : 1 ≤ m) (e : 2 * h + m = n + 1) (hn : 1 ≤ n ∧ n ≤ 12) : OR.PlZ n (plain h m) ∧ (OR.rims (plain h m)).length = m := by
  have k := plainB_ok
  unfold plainB at k
  have k1 := List.all_eq_true.mp k h (List.mem_range.mpr (by omega))
  have k2 := List.all_eq_true.mp k1 m (List.mem_range.mpr (by omega))
  rw [decide_eq_true hm, decide_eq_true (show 2 ≤ 2 * h + m by omega), decide_eq_true (show 2 * h + m ≤ 13 by omega)] at k2
  simp only [Bool.and_self, Bool.not_true, Bool.false_or, Bool.and_eq_true, decide_eq_true_eq] at k2
  rw [show 2 * h + m - 1 = n by omega] at k2
  exact ⟨zl_plz k2.1, k2.2⟩
theorem plain_len (h m : Nat) : (plain h m).length = 4 * h + 2 * (m - 1) := by
  unfold plain
  rw [List.length_append, List.length_flatten, List.length_flatten, List.map_map, List.map_map]
  have a : ((List.range h).map (List.length ∘ fun (k : Nat) => [2 * (k : Int) + 1, 2 * (k : Int) + 2, -(2 * (k : Int) + 1), -(2 * (k : Int) + 2)])).sum = 4 * h := by
    rw [show (List.length ∘ fun (k : Nat) => [2 * (k : Int) + 1, 2 * (k : Int) + 2, -(2 * (k : Int) + 1), -(2 * (k : Int) + 2)]) = fun _ => 4 from rfl, List.map_const', List.sum_replicate_nat, List.length_range]; omega
  have b : ((List.range (m - 1)).map (List.length ∘ fun (k : Nat) => [2 * (h : Int) + 1 + (k : Int), -(2 * (h : Int) + 1 + (k : Int))])).sum = 2 * (m - 1) := by
    rw [show (List.length ∘ fun (k : Nat) => [2 * (h : Int) + 1 + (k : Int), -(2 * (h : Int) + 1 + (k : Int))]) = fun _ => 2 from rfl, List.map_const', List.sum_replicate_nat, List.length_range]; omega
  rw [a, b]
def pl1 (i : Nat) : List Int := ((List.range i).map fun (k : Nat) => [2 * (k : Int) + 1, 2 * (k : Int) + 2, -(2 * (k : Int) + 1), -(2 * (k : Int) + 2)]).flatten
def pl2 (h i : Nat) : List Int := ((List.range i).map fun (k : Nat) => [2 * (h : Int) + 1 + (k : Int), -(2 * (h : Int) + 1 + (k : Int))]).flatten
theorem pl1_succ (i : Nat) : pl1 (i + 1) = pl1 i ++ [2 * (i : Int) + 1, 2 * (i : Int) + 2, -(2 * (i : Int) + 1), -(2 * (i : Int) + 2)] := by
  unfold pl1
  rw [List.range_succ, List.map_append, List.flatten_append]; simp
theorem pl2_succ (h i : Nat) : pl2 h (i + 1) = pl2 h i ++ [2 * (h : Int) + 1 + (i : Int), -(2 * (h : Int) + 1 + (i : Int))] := by
  unfold pl2
  rw [List.range_succ, List.map_append, List.flatten_append]; simp
theorem pl1_len : ∀ i : Nat, (pl1 i).length = 4 * i
  | 0 => rfl
  | i + 1 => by rw [pl1_succ, List.length_append, pl1_len i]; simp; omega
theorem pl2_len (h : Nat) : ∀ i : Nat, (pl2 h i).length = 2 * i
  | 0 => rfl
  | i + 1 => by rw [pl2_succ, List.length_append, pl2_len h i]; simp; omega
section
variable {p : Ret → List Sl → Prop}
def rn (out : List (List Int)) (r : List Int) : D := if r ∈ out then .tuple [.int (out.idxOf r : Nat), .int 1] else if r ∈ out.map (fun s => ring (undone s)) then .tuple [.int ((out.map fun s => ring (undone s)).idxOf r : Nat), .int (-1)] else .none
theorem neg_lc {c0 c1 c2 : Sl} {s : List Int} {fin : List D → DL.Env → Prop} (h : fin ((undone s).map PyData.int) [c0, c1, c2, .d (tupD s), .un]) :
    lcW (.nm 4) tYesD (e1 wNeg (eV 4)) [4] fin (s.map PyData.int).reverse [] [c0, c1, c2, .d (tupD s), .un] :=
  lcW_mapE (i := 4) PyData.int (fun x => .int (-x)) s.reverse (List.map_reverse ..).symm rfl (fun x _ q h => h) (by
    rw [show s.reverse.map (fun x => PyData.int (-x)) = (undone s).map PyData.int by simp [undone]]; exact h)
/-- the rims' rings as they are told -/
structure Rings (n : Nat) (P : List Int) (out : List (List Int)) : Prop where
  so : sortedRows out ((OR.rims P).map ring)
theorem Rings.of {n : Nat} {P : List Int} {out : List (List Int)} (hP : OR.PlZ n P) (hn : 1 ≤ n ∧ n ≤ 13) (h : Rings n P out) : ∀ s ∈ out, (Red s ∧ ¬ Canc s) ∧ ring s = s ∧ s ≠ [] ∧ s.length ≤ 26 ∧ ∀ x ∈ s, x ∈ P := fun s hs => by
  obtain ⟨r, hr, rfl⟩ := List.mem_map.mp (h.so.1.mem_iff.mp hs)
  obtain ⟨h1, h2, h3, h4⟩ := rims_red hP hn.1 r hr
  have := ring_len r
  have := hP.len
  exact ⟨ring_cyc r, ring_ring r, rims_ne hP hn.1 r hr, by omega, fun x hx => h4 x (ring_sub hx)⟩
theorem Rings.len {n : Nat} {P : List Int} {out : List (List Int)} (h : Rings n P out) : out.length = (OR.rims P).length := by rw [h.so.1.length_eq, List.length_map]
theorem layRows : ∀ rows : List (List Int), PyData.canLayAll0 (rows.map tupD) = true ∧ PyData.depthAll (rows.map tupD) ≤ 1
  | [] => ⟨rfl, Nat.zero_le _⟩
  | r :: t => by
    obtain ⟨h1, h2⟩ := layRows t
    have a : PyData.canLay0 (tupD r) = true := by show PyData.canLayAll0 (r.map PyData.int) = true; exact canLayInts r
    have b : PyData.depth (tupD r) = 1 := by show PyData.depthAll (r.map PyData.int) + 1 = 1; rw [depthInts]
    constructor
    · show (PyData.canLay0 (tupD r) && PyData.canLayAll0 (t.map tupD)) = true
      rw [a, h1]; rfl
    · show max (PyData.depth (tupD r)) (PyData.depthAll (t.map tupD)) ≤ 1
      rw [b]; omega
theorem okRows (rows : List (List Int)) : eqOk (.list (rows.map tupD)) := by
  obtain ⟨h1, h2⟩ := layRows rows
  show (PyData.canLayAll0 (rows.map tupD) && decide (PyData.depthAll (rows.map tupD) + 1 ≤ 64)) = true
  rw [h1, decide_eq_true (by omega)]; rfl
theorem any_row (r : List Int) : ∀ rows : List (List Int), anyD (tupD r) (rows.map tupD) = decide (r ∈ rows)
  | [] => rfl
  | s :: t => by
    show (PyData.eqv (tupD s) (tupD r) || anyD (tupD r) (t.map tupD)) = _
    rw [eqv_tupD, any_row r t]
    by_cases h : s = r
    · subst h; simp
    · have : ¬ r = s := fun e => h e.symm
      simp [h, this]
theorem row_get {rows : List (List Int)} {r : List Int} (h : r ∈ rows) : (rows.map tupD)[rows.idxOf r]? = some (tupD r) := by
  have hl := List.idxOf_lt_length_iff.mpr h
  rw [List.getElem?_map, List.getElem?_eq_getElem hl, List.getElem_idxOf]; rfl
theorem row_eq (r : List Int) : PyData.eqv (tupD r) (tupD r) = true := by rw [eqv_tupD]; exact decide_eq_true rfl
theorem row_min {rows : List (List Int)} {r : List Int} (h : r ∈ rows) (m : Nat) (d : D) (hm : m < rows.idxOf r) (hd : (rows.map tupD)[m]? = some d) : PyData.eqv d (tupD r) = false := by
  have hl := List.idxOf_lt_length_iff.mpr h
  rw [List.getElem?_map, List.getElem?_eq_getElem (by omega)] at hd
  have hd := Option.some.inj hd
  subst hd
  rw [eqv_tupD]
  refine decide_eq_false fun e => ?_
  have := List.not_of_lt_findIdx (p := (· == r)) (xs := rows) (i := m) (by rw [List.idxOf] at hm; exact hm)
  rw [e] at this
  simp at this
def Fl (d : D) : Prop := (∃ i, d = .int i) ∨ d = .bool true ∨ d = .none ∨ d = .str "1"
def isI : D → Bool
  | .int _ => true
  | _ => false
theorem layFl : ∀ {ds : List D}, (∀ d ∈ ds, Fl d) → PyData.canLayAll0 ds = true ∧ PyData.depthAll ds = 0
  | [], _ => ⟨rfl, rfl⟩
  | d :: t, h => by
    obtain ⟨h1, h2⟩ := layFl fun e he => h e (List.mem_cons_of_mem _ he)
    have a : PyData.canLay0 d = true ∧ PyData.depth d = 0 := by
      rcases h d List.mem_cons_self with ⟨i, rfl⟩ | rfl | rfl | rfl
      · exact ⟨rfl, rfl⟩
      · exact ⟨rfl, rfl⟩
      · exact ⟨rfl, rfl⟩
      · exact ⟨by decide +kernel, rfl⟩
    constructor
    · show (PyData.canLay0 d && PyData.canLayAll0 t) = true
      rw [a.1, h1]; rfl
    · show max (PyData.depth d) (PyData.depthAll t) = 0
      rw [a.2, h2]; rfl
theorem okFlT {ds : List D} (h : ∀ d ∈ ds, Fl d) : eqOk (.tuple ds) := by
  obtain ⟨h1, h2⟩ := layFl h
  show (PyData.canLayAll0 ds && decide (PyData.depthAll ds + 1 ≤ 64)) = true
  rw [h1, h2]; rfl
theorem okFlL {ds : List D} (h : ∀ d ∈ ds, Fl d) : eqOk (.list ds) := by
  obtain ⟨h1, h2⟩ := layFl h
  show (PyData.canLayAll0 ds && decide (PyData.depthAll ds + 1 ≤ 64)) = true
  rw [h1, h2]; rfl
theorem eqv_nilT (ds : List D) : PyData.eqv (.tuple ds) (.tuple []) = ds.isEmpty := by
  cases ds with
  | nil => rfl
  | cons d t => rw [PyData.eqv]; rfl
theorem eqv_nilL (ds : List D) : PyData.eqv (.list ds) (.list []) = ds.isEmpty := by
  cases ds with
  | nil => rfl
  | cons d t => rw [PyData.eqv]; rfl
theorem zl_sorted (n : Nat) : (zl n).Pairwise (· ≤ ·) := by
  refine List.Pairwise.filter _ (List.Pairwise.map _ (fun a b (h : a < b) => by omega) List.pairwise_lt_range)
theorem sorted_zl {ns ns' : List Int} {n : Nat} (h1 : ns'.Perm ns) (h2 : ns'.Pairwise (· ≤ ·)) : decide (ns' = zl n) = decide (ns.Perm (zl n)) := by
  rw [decide_eq_decide]
  constructor
  · intro e; rw [← e]; exact h1.symm
  · intro e
    have hp := h1.trans e
    have h3 := zl_sorted n
    generalize zl n = b at *
    clear e h1
    induction ns' generalizing b with
    | nil => exact (List.Perm.eq_nil hp.symm).symm
    | cons x r ih =>
      cases b with
      | nil => exact absurd (List.Perm.eq_nil hp) (by simp)
      | cons y t =>
        obtain ⟨p1, p2⟩ := List.pairwise_cons.mp h2
        obtain ⟨q1, q2⟩ := List.pairwise_cons.mp h3
        have e : x = y := by
          have m1 : x ∈ y :: t := hp.mem_iff.mp List.mem_cons_self
          have m2 : y ∈ x :: r := hp.mem_iff.mpr List.mem_cons_self
          rcases List.mem_cons.mp m1 with e | m1
          · exact e
          · rcases List.mem_cons.mp m2 with e | m2
            · exact e.symm
            · have := q1 x m1; have := p1 y m2; omega
        subst e
        rw [ih p2 t hp.cons_inv q2]
/-- both tell the same of a value -/
def isPl (ns : List Int) : Bool := !ns.isEmpty && decide (ns.length ≤ 24) && decide (ns.Perm (zl (ns.length / 2)))
theorem rng_lc {i : Nat} {ρ : DL.Env} {fin : List D → DL.Env → Prop} {ds : List D} (m : Nat) (e : ds = rangeD (0 - (m : Int)) (2 * m + 1)) (hi : ρ[i]? = some .un) (te : ET) (hte : ∀ (x : Int) (q : Op → DL.Env → Prop), q (.v (.int x)) (ρ.set i (.d (.int x))) → te (ρ.set i (.d (.int x))) q)
    (tt : ETT) (htt : ∀ (x : Int) (q : Bool → DL.Env → Prop), q (!decide (x = 0)) (ρ.set i (.d (.int x))) → tt (ρ.set i (.d (.int x))) q) (h : fin ((zl m).map PyData.int) ρ) : lcW (.nm i) tt te [i] fin ds [] ρ := by
  subst e
  exact zl_lc m hi hte tt htt h
theorem half (n : Nat) : ((n : Int)).fdiv 2 = ((n / 2 : Nat) : Int) := by rw [Int.fdiv_eq_ediv_of_nonneg _ (by omega)]; omega
theorem isI_all {ds : List D} (h : ∃ d ∈ ds, isI d = false) : ((ds.map fun d => PyData.bool (isI d)).length = ds.length) ∧ (ds.map isI).all id = false := by
  refine ⟨by rw [List.length_map], ?_⟩
  obtain ⟨d, hd, hi⟩ := h
  cases q : (ds.map isI).all id with
  | false => rfl
  | true =>
    have := List.all_eq_true.mp q (isI d) (List.mem_map.mpr ⟨d, hd, rfl⟩)
    rw [hi] at this; cases this
end
theorem sort_uniq {a b xs ys : List Int} (ha : a.Perm xs) (sa : a.Pairwise (· ≤ ·)) (hb : b.Perm ys) (sb : b.Pairwise (· ≤ ·)) (h : xs.Perm ys) : a = b := by
  have hp : a.Perm b := ha.trans (h.trans hb.symm)
  clear ha hb h
  induction a generalizing b with
  | nil => exact (List.Perm.eq_nil hp.symm).symm
  | cons x r ih =>
    cases b with
    | nil => exact absurd (List.Perm.eq_nil hp) (by simp)
    | cons y t =>
      obtain ⟨p1, p2⟩ := List.pairwise_cons.mp sa
      obtain ⟨q1, q2⟩ := List.pairwise_cons.mp sb
      have e : x = y := by
        have m1 : x ∈ y :: t := hp.mem_iff.mp List.mem_cons_self
        have m2 : y ∈ x :: r := hp.mem_iff.mpr List.mem_cons_self
        rcases List.mem_cons.mp m1 with e | m1
        · exact e
        · rcases List.mem_cons.mp m2 with e | m2
          · exact e.symm
          · have := q1 x m1; have := p1 y m2; omega
      subst e
      rw [ih p2 q2 hp.cons_inv]
theorem fitRow {ns : List Int} (h : ∀ x ∈ ns, x.natAbs < 10 ^ 12) (hl : ns.length ≤ 30) : Fit 1 (41 * 30) (tupD ns) := (Fit.tupD h).mono (Nat.le_refl _) (Nat.mul_le_mul_left _ hl)
theorem fitRows {rows : List (List Int)} (h : ∀ r ∈ rows, r.length ≤ 30 ∧ ∀ x ∈ r, x.natAbs < 10 ^ 12) (hl : rows.length ≤ 30) : Fits 1 (1231 * 30) (rows.map tupD) := by
  have := Fits.all (c := 1) (w := 41 * 30) (ds := rows.map tupD) fun d hd => by
    obtain ⟨r, hr, rfl⟩ := List.mem_map.mp hd
    exact fitRow (h r hr).2 (h r hr).1
  refine this.mono (Nat.le_refl _) ?_
  rw [List.length_map]
  exact Nat.mul_le_mul_left _ hl
section
variable {n m h k : Nat} {P r : List Int} {out out2 : List (List Int)} {En : EndsD} {c0 c2 c3 c4 c5 c6 c7 c8 c9 c10 c11 c12 c13 c14 c15 c16 c17 c18 c19 c20 c21 c22 c23 c24 c25 : Sl}
theorem rows_small {out : List (List Int)} (hP : OR.PlZ n P) (hn : 1 ≤ n ∧ n ≤ 12) (ho : ∀ s ∈ out, s.length ≤ 26 ∧ ∀ x ∈ s, x ∈ P) : ∀ r ∈ out, r.length ≤ 30 ∧ ∀ x ∈ r, x.natAbs < 10 ^ 12 := fun r hr => by
  obtain ⟨a, b⟩ := ho r hr
  refine ⟨by omega, fun x hx => ?_⟩
  have := (hP.mem x).mp (b x hx)
  have : (13 : Nat) < 10 ^ 12 := by decide
  omega
theorem rings_small (hP : OR.PlZ n P) (hn : 1 ≤ n ∧ n ≤ 12) (ho : Rings n P out) : (∀ r ∈ out, r.length ≤ 30 ∧ ∀ x ∈ r, x.natAbs < 10 ^ 12) ∧ out.length ≤ 30 := by
  refine ⟨rows_small hP hn fun s hs => ?_, ?_⟩
  · have := ho.of hP (by omega) s hs
    exact ⟨this.2.2.2.1, this.2.2.2.2⟩
  · rw [ho.len]
    have := OR.rims_len hP hn.1
    omega
theorem ty_shown (hh : h ≤ 20) (hm : m ≤ 20) : shownOk (.tuple [.int (h : Nat), .int (m : Nat)]) := by
  have g : ∀ a : Nat, a ≤ 20 → Fit 0 40 (.int (a : Nat)) := fun a ha => Fit.int (by rw [Int.natAbs_natCast]; exact Nat.lt_of_le_of_lt ha (by decide))
  exact (Fit.tuple (Fits.cons (g h hh) (Fits.cons (g m hm) (Fits.nil (w := 0))))).shownOk (by decide) (by decide)
theorem und_ne {s : List Int} (h1 : Red s) (h3 : s ≠ []) : ring (undone s) ≠ [] := fun e => by
  rw [ring_red (red_undone h1)] at e
  have := (minrot_rot (core (undone s))).len
  rw [e] at this
  have h5 := core_ne (red_undone h1) (fun e => h3 (List.eq_nil_of_length_eq_zero (by rw [← undone_len, e]; rfl)))
  exact h5 (List.eq_nil_of_length_eq_zero this)
theorem shRows {rows : List (List Int)} (h : (∀ r ∈ rows, r.length ≤ 30 ∧ ∀ x ∈ r, x.natAbs < 10 ^ 12) ∧ rows.length ≤ 30) : Fit 2 (1231 * 30) (.tuple (rows.map tupD)) := Fit.tuple (fitRows h.1 h.2)
theorem turn_sorted {o : List (List Int)} (hP : OR.PlZ n P) (hn : 1 ≤ n ∧ n ≤ 12) (ho : Rings n P out) (hk : k ≤ P.length) (s : sortedRows o ((OR.rims (P.drop k ++ P.take k)).map ring)) : o = out :=
  sorted_uniq s ho.so (OR.turn_rims hP hn.1 hk ring_rot)
theorem rev_sorted {o : List (List Int)} (hP : OR.PlZ n P) (hn : 1 ≤ n ∧ n ≤ 12) (ho : Rings n P out) (h2 : sortedRows out2 (out.map fun s => ring (undone s))) (s : sortedRows o ((OR.rims P.reverse).map ring)) : o = out2 := by
  refine sorted_uniq s h2 ((OR.rev_rims hP hn.1 ring_rot).trans ?_)
  have h3 := (ho.so.1.map fun s => ring (undone s)).symm
  rw [List.map_map] at h3
  have e : (OR.rims P).map ((fun s => ring (undone s)) ∘ ring) = (OR.rims P).map fun r => ring (OR.und r) := List.map_congr_left fun r _ => ring_und r
  rw [e] at h3
  exact h3
theorem late_small (hP : OR.PlZ n P) (hn : 1 ≤ n ∧ n ≤ 12) (ho : Rings n P out) (h2 : sortedRows out2 (out.map fun s => ring (undone s))) : (∀ s ∈ out2, s.length ≤ 26 ∧ ∀ x ∈ s, x ∈ P) ∧ out2.length ≤ 30 := by
  refine ⟨fun s hs => ?_, ?_⟩
  · obtain ⟨t, ht, rfl⟩ := List.mem_map.mp (h2.1.mem_iff.mp hs)
    have := ho.of hP (by omega) t ht
    have l := ring_len (undone t)
    rw [undone_len] at l
    refine ⟨by omega, fun x hx => ?_⟩
    have h3 := this.2.2.2.2 _ (undone_mem (ring_sub hx))
    have h4 := (hP.mem _).mp h3
    exact (hP.mem x).mpr ⟨by omega, by omega, by omega⟩
  · rw [h2.1.length_eq, List.length_map]
    exact (rings_small hP hn ho).2
theorem pairRows {a b : List (List Int)} (ha : (∀ r ∈ a, r.length ≤ 30 ∧ ∀ x ∈ r, x.natAbs < 10 ^ 12) ∧ a.length ≤ 30) (hb : (∀ r ∈ b, r.length ≤ 30 ∧ ∀ x ∈ r, x.natAbs < 10 ^ 12) ∧ b.length ≤ 30) : shownOk (.list [.tuple (a.map tupD), .tuple (b.map tupD)]) :=
  (Fit.list (Fits.cons (shRows ha) (Fits.cons (shRows hb) (Fits.nil (w := 0))))).shownOk (by decide) (by decide)
theorem fl_ints (ns : List Int) : ∀ d ∈ ns.map PyData.int, Fl d := fun d hd => by obtain ⟨i, _, rfl⟩ := List.mem_map.mp hd; exact .inl ⟨i, rfl⟩
theorem rn_shown (ho : out.length ≤ 100) : shownOk (rn out r) := by
  have f (i : Nat) (e : Int) (hi : i ≤ 100) (he : e = 1 ∨ e = -1) : shownOk (.tuple [.int (i : Nat), .int e]) :=
    (Fit.tuple (Fits.cons (Fit.int (by have : (100 : Nat) < 10 ^ 12 := by decide
                                       omega)) (Fits.cons (Fit.int (by rcases he with rfl | rfl <;> decide)) (Fits.nil (w := 0))))).shownOk (by decide) (by decide)
  unfold rn
  split
  · rename_i hm
    have := List.idxOf_lt_length_iff.mpr hm
    exact f _ _ (by omega) (.inl rfl)
  · split
    · rename_i hm
      have := List.idxOf_lt_length_iff.mpr hm
      rw [List.length_map] at this
      exact f _ _ (by omega) (.inr rfl)
    · exact Fit.none.shownOk (by decide) (by decide)
theorem st_mod {b i j : Nat} (h1 : i < b) (h2 : j < b) : ∃ s : Nat, ((j : Int) - (i : Int)) % (b : Int) = (s : Int) ∧ s < b ∧ (i + s) % b = j ∧ ∀ m, m ≤ s → (i + m) % b = j → m = s := by
  by_cases c : i ≤ j
  · refine ⟨j - i, ?_, by omega, ?_, fun m hm e => ?_⟩
    · rw [Int.emod_eq_of_lt (by omega) (by omega)]; omega
    · rw [Nat.mod_eq_of_lt (by omega)]; omega
    · rw [Nat.mod_eq_of_lt (by omega)] at e; omega
  · refine ⟨j + b - i, ?_, by omega, ?_, fun m hm e => ?_⟩
    · have := Int.add_mul_emod_self_left ((j : Int) - i) b 1
      rw [Int.mul_one] at this
      rw [← this, Int.emod_eq_of_lt (by omega) (by omega)]; omega
    · rw [Nat.mod_eq_sub_mod (by omega), Nat.mod_eq_of_lt (by omega)]; omega
    · by_cases q : i + m < b
      · rw [Nat.mod_eq_of_lt q] at e; omega
      · rw [Nat.mod_eq_sub_mod (by omega), Nat.mod_eq_of_lt (by omega)] at e; omega
end
section
variable {p : Ret → List Sl → Prop}
theorem sub_eq (y : Int) : (0 : Int) - y = -y := Int.zero_sub y
theorem rim_not {n : Nat} {P : List Int} (h : OR.PlZ n P) (hn : 1 ≤ n) : ∀ r ∈ OR.rims P, ¬ Canc r := fun r hr ⟨x, m, e⟩ => by
  have hc := (OR.rims_dec h hn).cyc r hr
  have hm := (rims_red h hn r hr).2.2.2
  subst e
  have hc : OR.Link (OR.phi P) x (m ++ -x :: []) x := hc
  have h2 := (OR.link_app.mp hc).2
  have h2 : OR.phi P (-x) = x := h2
  exact phi_ne h hn (-x) (hm _ (by simp)) (by rw [h2]; omega)
theorem rim_rot {n : Nat} {P : List Int} (h : OR.PlZ n P) (hn : 1 ≤ n) {r : List Int} (hr : r ∈ OR.rims P) : IsRot r (ring r) := by
  rw [ring_red (rims_red h hn r hr).1, core_stop (rim_not h hn r hr)]
  exact minrot_rot r
theorem rot_map (σ : Int → Int) {a b : List Int} (h : IsRot a b) : ring (b.map σ) = ring (a.map σ) := by
  obtain ⟨u, v, rfl, rfl⟩ := h
  rw [List.map_append, List.map_append, ring_rot]
theorem rot_nd {a b : List Int} (h : IsRot a b) (nd : a.Nodup) : b.Nodup := by
  obtain ⟨u, v, rfl, rfl⟩ := h
  exact List.perm_append_comm.nodup_iff.mp nd
theorem rim_nd {n : Nat} {P : List Int} (h : OR.PlZ n P) (hn : 1 ≤ n) {r : List Int} (hr : r ∈ OR.rims P) : r.Nodup :=
  OR.nd_row ((OR.rims_dec h hn).perm.nodup_iff.mpr h.nd) hr
theorem Rings.nd {n : Nat} {P : List Int} {out : List (List Int)} (h : OR.PlZ n P) (hn : 1 ≤ n) (ho : Rings n P out) : out.Nodup := by
  refine ho.so.1.nodup_iff.mpr (List.pairwise_map.mpr ?_)
  have h1 : (OR.rims P).flatten.Nodup := (OR.rims_dec h hn).perm.nodup_iff.mpr h.nd
  have h2 := (List.pairwise_flatten.mp h1).2
  refine List.Pairwise.imp_of_mem (fun {a b} ha hb q e => ?_) h2
  obtain ⟨x, t, ex⟩ := List.exists_cons_of_ne_nil (rims_ne h hn a ha)
  exact q x (ring_sub (ex ▸ List.mem_cons_self)) x (ring_sub (e ▸ ex ▸ List.mem_cons_self)) rfl
theorem Rings.rows {n : Nat} {P : List Int} {out : List (List Int)} (h : OR.PlZ n P) (hn : 1 ≤ n) (ho : Rings n P out) {s : List Int} (hs : s ∈ out) : s.Nodup := by
  obtain ⟨r, hr, rfl⟩ := List.mem_map.mp (ho.so.1.mem_iff.mp hs)
  exact rot_nd (rim_rot h hn hr) (rim_nd h hn hr)
theorem und_nd {s : List Int} (h : s.Nodup) : (undone s).Nodup := by
  refine List.pairwise_map.mpr ?_
  exact List.Pairwise.imp (fun {a b} n e => n (by omega)) ((List.reverse_perm s).nodup_iff.mpr h)
theorem ring_rotR {s : List Int} (h1 : Red s) (h2 : ¬ Canc s) : IsRot s (ring s) := by
  rw [ring_red h1, core_stop h2]; exact minrot_rot s
theorem und_back {s : List Int} (h : ring s = s) : ring (undone (ring (undone s))) = s := by
  rw [ring_und, undone_undone, h]
theorem ren_sorted {n : Nat} {P names : List Int} {out due o : List (List Int)} (hP : OR.PlZ n P) (hn : 1 ≤ n) (hN : OR.Names n names) (ho : Rings n P out) (hd : sortedRows due (out.map fun s => ring (s.map (OR.ren names)))) (so : sortedRows o ((OR.rims (P.map (OR.ren names))).map ring)) : o = due := by
  refine sorted_uniq so hd ?_
  have h1 := (ho.so.1.map fun s => ring (s.map (OR.ren names))).symm
  rw [List.map_map] at h1
  rw [← OR.ren0_map hP fun x hx => hx, OR.ren_rims (OR.ren_ok hP hN) hP, List.map_map]
  have e : (OR.rims P).map (ring ∘ List.map (OR.ren0 names)) = (OR.rims P).map ((fun s => ring (s.map (OR.ren names))) ∘ ring) := List.map_congr_left fun r hr => by
    show ring (r.map (OR.ren0 names)) = ring ((ring r).map (OR.ren names))
    rw [OR.ren0_map hP (rims_red hP hn r hr).2.2.2, rot_map _ (rim_rot hP hn hr)]
  rw [e]; exact h1
structure Rg (n most : Nat) (A : List Int) : Prop where
  ne : A ≠ []
  len : A.length ≤ most
  mem : ∀ x ∈ A, x ≠ 0 ∧ x ≤ n ∧ -(n : Int) ≤ x
  red : Red A
  nc : ¬ Canc A
theorem Rg.one {n most : Nat} (hn : 1 ≤ n) (hm : 1 ≤ most) : Rg n most [1] := ⟨by simp, by simpa using hm, fun x hx => by simp at hx; omega, red_one 1, fun ⟨x, m, e⟩ => by
  have := congrArg List.length e
  simp at this⟩
def nxt (n : Nat) (row : List Int) : List Int := (((List.range (2 * n + 1)).map fun (i : Nat) => 0 - (n : Int) + (i : Int)).filter fun x => !decide (x = 0) && !decide (row.getLast?.toList = [0 - x]))
theorem nxt_mem {n : Nat} {row : List Int} {x : Int} : x ∈ nxt n row ↔ (x ≠ 0 ∧ x ≤ n ∧ -(n : Int) ≤ x) ∧ row.getLast?.toList ≠ [0 - x] := by
  unfold nxt
  rw [List.mem_filter, List.mem_map]
  constructor
  · rintro ⟨⟨i, hi, rfl⟩, h⟩
    have := List.mem_range.mp hi
    simp only [Bool.and_eq_true, Bool.not_eq_true', decide_eq_false_iff_not] at h
    exact ⟨⟨h.1, by omega, by omega⟩, h.2⟩
  · rintro ⟨⟨h1, h2, h3⟩, h4⟩
    refine ⟨⟨(x + n).toNat, List.mem_range.mpr (by omega), by omega⟩, ?_⟩
    simp only [Bool.and_eq_true, Bool.not_eq_true', decide_eq_false_iff_not]
    exact ⟨h1, h4⟩
theorem nxt_ne {n : Nat} (hn : 1 ≤ n) (row : List Int) : nxt n row ≠ [] := fun e => by
  have h1 : (1 : Int) ∉ nxt n row := by rw [e]; simp
  have h2 : (-1 : Int) ∉ nxt n row := by rw [e]; simp
  rw [nxt_mem] at h1 h2
  have : row.getLast?.toList ≠ [0 - 1] ∨ row.getLast?.toList ≠ [0 - -1] := by
    by_cases c : row.getLast?.toList = [0 - 1]
    · exact .inr (by rw [c]; decide)
    · exact .inl c
  rcases this with h | h
  · exact h1 ⟨⟨by decide, by omega, by omega⟩, h⟩
  · exact h2 ⟨⟨by decide, by omega, by omega⟩, h⟩
theorem nxt_lc {n : Nat} {row : List Int} {c0 c2 c5 c6 : Sl} {fin : List D → DL.Env → Prop} (ds : List D) (hd : ds = rangeD (0 - (n : Int)) (2 * n + 1)) (h : fin ((nxt n row).map PyData.int) [c0, .d (.int (n : Int)), c2, .own true (.lst (row.map PyData.int)), .un, c5, c6]) :
    lcW (.nm 4) (tAnd' (tB' (e2 wNe (eV 4) (eK (.int 0)))) (tB' (e2 wNe (eSl (eV 3) (oSome (e1 wNeg (eK (.int 1)))) oNone) (eLst (aCons (e2 wSub (eK (.int 0)) (eV 4)) aNil))))) (eV 4) [4] fin ds [] [c0, .d (.int (n : Int)), c2, .own true (.lst (row.map PyData.int)), .un, c5, c6] := by
  refine lcW_filterE (i := 4) PyData.int PyData.int (fun x => !decide (x = 0) && !decide (row.getLast?.toList = [0 - x])) ((List.range (2 * n + 1)).map fun (i : Nat) => 0 - (n : Int) + (i : Int)) (by rw [hd, rangeD_eq, List.map_map]; rfl) rfl (fun x hx q hq => ?_) (fun x hx _ q hq => hq) h
  refine iteN (fun c => ?_) (fun c => ?_)
  · rw [decide_eq_false c] at hq
    refine ⟨sz (by show 1 ≤ 1000; omega), ?_, okLI [0 - x], ?_⟩
    · show eqOk (.list (cutD (row.map PyData.int) (some (-1)) none))
      rw [cut_last]; exact okLI _
    · show q (!PyData.eqv (.list (cutD (row.map PyData.int) (some (-1)) none)) (.list ([0 - x].map PyData.int))) _
      rw [cut_last, eqv_lst]; exact hq
  · rw [decide_eq_true c] at hq
    exact hq
end
section
variable {n m h k : Nat} {P r names : List Int} {out out2 due : List (List Int)} {En : EndsD} {c0 c2 c3 c4 c5 c6 c7 c8 c9 c10 c11 c12 c13 c14 c15 c16 c17 c18 c19 c20 c21 : Sl}
theorem fitTy (hh : h ≤ 20) (hm : m ≤ 20) : Fit 2 (1231 * 30) (.tuple [.int ((h : Nat) : Int), .int ((m : Nat) : Int)]) := by
  have b : (20 : Nat) < 10 ^ 12 := by decide
  exact (Fit.tuple (Fits.cons (Fit.int (by omega)) (Fits.cons (Fit.int (by omega)) (Fits.nil (w := 0))))).mono (by decide) (by decide)
theorem pairTy {a : List (List Int)} (ha : (∀ r ∈ a, r.length ≤ 30 ∧ ∀ x ∈ r, x.natAbs < 10 ^ 12) ∧ a.length ≤ 30) (hh : h ≤ 20) (hm : m ≤ 20) : shownOk (.list [.tuple (a.map tupD), .tuple [.int ((h : Nat) : Int), .int ((m : Nat) : Int)]]) :=
  (Fit.list (Fits.cons (shRows ha) (Fits.cons (fitTy hh hm) (Fits.nil (w := 0))))).shownOk (by decide) (by decide)
/-- how many: bands, handles, rims -/
structure Ty (n h m : Nat) (P : List Int) : Prop where
  m1 : 1 ≤ m
  e : 2 * h + m = n + 1
  rl : (OR.rims P).length = m
theorem ty_of (hP : OR.PlZ n P) (hn : 1 ≤ n ∧ n ≤ 6) (hm : m = (OR.rims P).length) (eh : h = (n + 1 - (OR.rims P).length) / 2) : Ty n h m P := by
  obtain ⟨g2, g3⟩ := OR.rims_len hP hn.1
  have g1 : 1 ≤ (OR.rims P).length := by
    have d := (OR.rims_dec hP hn.1).perm.length_eq
    rw [hP.len] at d
    cases q : OR.rims P with
    | nil => rw [q] at d; simp at d; omega
    | cons => simp
  exact ⟨by omega, by omega, hm.symm⟩
theorem okTy (a b : Int) : eqOk (.tuple [.int a, .int b]) := okTI [a, b]
theorem eqTy (a b c d : Int) : PyData.eqv (.tuple [.int a, .int b]) (.tuple [.int c, .int d]) = decide ([a, b] = [c, d]) := eqv_tupD [a, b] [c, d]
theorem turn_len (hP : OR.PlZ n P) (hn : 1 ≤ n) (hk : k ≤ P.length) : (OR.rims (P.drop k ++ P.take k)).length = (OR.rims P).length := by
  have := (OR.turn_rims hP hn hk (g := List.length) (fun u v => by rw [List.length_append, List.length_append, Nat.add_comm])).length_eq
  rw [List.length_map, List.length_map] at this; exact this
theorem rev_len (hP : OR.PlZ n P) (hn : 1 ≤ n) : (OR.rims P.reverse).length = (OR.rims P).length := by
  have := (OR.rev_rims hP hn (g := List.length) (fun u v => by rw [List.length_append, List.length_append, Nat.add_comm])).length_eq
  rw [List.length_map, List.length_map] at this; exact this
theorem tup_same (ns : List Int) {a b : Prop} (h : b) : if (!PyData.eqv (tupD ns) (tupD ns)) = true then a else b := by
  rw [eqv_tupD, decide_eq_true rfl]; exact h
theorem ren_len (hP : OR.PlZ n P) (hN : OR.Names n names) : (OR.rims (P.map (OR.ren names))).length = (OR.rims P).length := by
  rw [← OR.ren0_map hP fun x hx => hx, OR.ren_rims (OR.ren_ok hP hN) hP, List.length_map]
theorem due_small (hP : OR.PlZ n P) (hn : 1 ≤ n ∧ n ≤ 6) (ho : Rings n P out) (hN : OR.Names n names) (hd : sortedRows due (out.map fun s => ring (s.map (OR.ren names)))) : (∀ s ∈ due, s.length ≤ 30 ∧ ∀ x ∈ s, x.natAbs < 10 ^ 12) ∧ due.length ≤ 30 := by
  refine ⟨fun s hs => ?_, by rw [hd.1.length_eq, List.length_map]; exact (rings_small hP (by omega) ho).2⟩
  obtain ⟨t, ht, rfl⟩ := List.mem_map.mp (hd.1.mem_iff.mp hs)
  have h1 := ho.of hP (by omega) t ht
  have h2 := ring_len (t.map (OR.ren names))
  rw [List.length_map] at h2
  refine ⟨by omega, fun x hx => ?_⟩
  obtain ⟨y, hy, rfl⟩ := List.mem_map.mp (ring_sub hx)
  obtain ⟨i, a, hi, ha, ax, a0, a1, a2, ea⟩ := hN.at ((hP.mem y).mp (h1.2.2.2.2 y hy))
  have b : (20 : Nat) < 10 ^ 12 := by decide
  rw [ea]
  split <;> omega
theorem rn_in {s : List Int} (hs : s ∈ out) : rn out s = .tuple [.int ((out.idxOf s : Nat) : Int), .int 1] := if_pos hs
theorem rn_late {s : List Int} (hs : s ∉ out) (h2 : s ∈ out.map fun s => ring (undone s)) : rn out s = .tuple [.int (((out.map fun s => ring (undone s)).idxOf s : Nat) : Int), .int (-1)] := by
  unfold rn; rw [if_neg hs, if_pos h2]
theorem rn_none {s : List Int} (hs : s ∉ out) (h2 : s ∉ out.map fun s => ring (undone s)) : rn out s = .none := by
  unfold rn; rw [if_neg hs, if_neg h2]
theorem idx_mid {α : Type} [BEq α] [LawfulBEq α] {pre rest : List α} {s : α} (h : s ∉ pre) : (pre ++ s :: rest).idxOf s = pre.length := by
  rw [List.idxOf_append, if_neg h, List.idxOf_cons_self]; omega
theorem ty_same (a b : Int) {p q : Prop} (h : q) : if (!PyData.eqv (.tuple [.int a, .int b]) (.tuple [.int a, .int b])) = true then p else q := by
  rw [eqTy, decide_eq_true rfl]; exact h
theorem behind_one {a : Int} (nd : P.Nodup) (h2 : 2 ≤ P.length) (ha : a ∈ P) : (((P.idxOf (OR.beh P a) : Nat) : Int) - (P.idxOf a : Nat)) % (P.length : Int) = 1 := by
  have e := OR.nd_at nd (OR.beh_at nd (OR.at_idx ha))
  have hl := List.idxOf_lt_length_iff.mpr ha
  rw [e]
  by_cases c : P.idxOf a + 1 < P.length
  · rw [Nat.mod_eq_of_lt c, show (((P.idxOf a + 1 : Nat) : Int) - (P.idxOf a : Nat)) = 1 by omega]
    exact Int.emod_eq_of_lt (by omega) (by omega)
  · rw [show P.idxOf a + 1 = P.length by omega, Nat.mod_self]
    have := Int.add_mul_emod_self_left (((0 : Nat) : Int) - (P.idxOf a : Nat)) P.length 1
    rw [Int.mul_one] at this
    rw [← this, show (((0 : Nat) : Int) - (P.idxOf a : Nat) + (P.length : Int)) = 1 by omega]
    exact Int.emod_eq_of_lt (by omega) (by omega)
def blk (i : Nat) : List Int := [2 * (i : Int) + 1, 2 * (i : Int) + 2, -(2 * (i : Int) + 1), -(2 * (i : Int) + 2)]
def two (h i : Nat) : List Int := [2 * (h : Int) + 1 + (i : Int), -(2 * (h : Int) + 1 + (i : Int))]
theorem pl1_split : ∀ (h j : Nat), j < h → ∃ r, pl1 h = pl1 j ++ (blk j ++ r)
  | h + 1, j, hj => by
    by_cases c : j = h
    · subst c
      exact ⟨[], by rw [pl1_succ, List.append_nil]; rfl⟩
    · obtain ⟨r, e⟩ := pl1_split h j (by omega)
      exact ⟨r ++ blk h, by rw [pl1_succ, e]; simp [blk]⟩
theorem pl2_split (h : Nat) : ∀ (i j : Nat), j < i → ∃ r, pl2 h i = pl2 h j ++ (two h j ++ r)
  | i + 1, j, hj => by
    by_cases c : j = i
    · subst c
      exact ⟨[], by rw [pl2_succ, List.append_nil]; rfl⟩
    · obtain ⟨r, e⟩ := pl2_split h i j (by omega)
      exact ⟨r ++ two h i, by rw [pl2_succ, e]; simp [two]⟩
theorem mid_cut {A B C : List Int} {a b : Nat} (ha : A.length = a) (hb : b = a + B.length) : ((A ++ (B ++ C)).take b).drop a = B := by
  subst ha
  subst hb
  rw [← List.append_assoc, ← List.length_append, List.take_left, List.drop_left]
theorem plain_eq (h m : Nat) : plain h m = pl1 h ++ pl2 h (m - 1) := rfl
theorem isPl_perm {ns : List Int} (h : ¬ ns.Perm (zl (ns.length / 2))) : isPl ns = false := by
  unfold isPl; rw [decide_eq_false h, Bool.and_false]
theorem isPl_long {ns : List Int} (h : 24 < ns.length) : isPl ns = false := by
  unfold isPl; rw [decide_eq_false (show ¬ ns.length ≤ 24 by omega), Bool.and_false, Bool.false_and]
theorem isPl_odd {ns : List Int} (h : ns.length % 2 = 1) : isPl ns = false := isPl_perm fun q => by
  have := q.length_eq
  rw [zl_len] at this; omega
theorem isPl_dup {ns : List Int} (h : ¬ ns.Nodup) : isPl ns = false := isPl_perm fun q => h (q.nodup_iff.mpr (zl_nd _))
theorem isPl_zero {ns : List Int} (h : (0 : Int) ∈ ns) : isPl ns = false := isPl_perm fun q => (zl_mem.mp (q.mem_iff.mp h)).1 rfl
theorem isPl_far {ns : List Int} {x : Int} (h : x ∈ ns) (hx : ¬ (x ≤ ((ns.length / 2 : Nat) : Int) ∧ -((ns.length / 2 : Nat) : Int) ≤ x)) : isPl ns = false := isPl_perm fun q => hx (zl_mem.mp (q.mem_iff.mp h)).2
theorem isPl_yes (hP : OR.PlZ n P) (hn : 1 ≤ n ∧ n ≤ 12) : isPl P = true := by
  have hl := hP.len
  unfold isPl
  have c : P.isEmpty = false := by
    cases q : P with
    | nil => rw [q] at hl; simp at hl; omega
    | cons => rfl
  rw [c, decide_eq_true (show P.length ≤ 24 by omega), show P.length / 2 = n by omega, decide_eq_true (plz_zl hP)]; rfl
end
section
variable {n m h k : Nat} {P r names : List Int} {out out2 due : List (List Int)} {En : EndsD} {c0 c2 c3 c4 c5 c6 c7 c8 c9 c10 c11 c12 c13 c14 c15 c16 c17 c18 c19 c20 c21 : Sl}
variable {ds : List D} {far : List Int}
def farL : List Int := (List.range 12).map (fun (i : Nat) => 1 + (i : Int)) ++ (List.range 12).map fun (i : Nat) => -12 + (i : Int)
theorem far_yes : isPl farL = true := by decide +kernel
theorem far_len : farL.length = 24 := by decide
end
namespace K12
section
variable {p : Ret → List Sl → Prop}
theorem e_undone0 (ns : List Int) : ns.reverse.map (fun x => PyData.int (0 - x)) = (undone ns).map PyData.int := by simp [undone]
theorem get_at {P : List Int} {x : Int} {q : D → Prop} (hx : x ∈ P) (h : q (.int (P.idxOf x : Nat))) : wGetK (pk 0 P) (.int x) q :=
  ⟨.inl x, _, rfl, pk_val hx, by rw [Nat.zero_add]; exact h⟩
theorem turns_lc {c0 : Sl} {fin : List D → DL.Env → Prop} (ns : List Int) (hl : ns.length ≤ 1000) (h : fin (((List.range ns.length).map (rot ns)).map tupD) [c0, .d (tupD ns), .un]) :
    lcW (.nm 2) tYesD (e2 wAdd (eSl (eV 1) (oSome (eV 2)) oNone) (eSl (eV 1) oNone (oSome (eV 2)))) [2] fin (rangeD 0 ns.length) [] [c0, .d (tupD ns), .un] := by
  refine lcW_mapE (fun (i : Nat) => PyData.int (0 + (i : Int))) (fun i => tupD (rot ns i)) (List.range ns.length) (rangeD_eq 0 _) rfl (fun i hi q hq => ?_) ?_
  · rw [Int.zero_add] at *
    show (cutD (ns.map PyData.int) (some (i : Int)) none).length + (cutD (ns.map PyData.int) none (some (i : Int))).length ≤ sizeLine ∧ q (.v (.tuple (cutD (ns.map PyData.int) (some (i : Int)) none ++ cutD (ns.map PyData.int) none (some (i : Int))))) [c0, .d (tupD ns), .d (.int (i : Int))]
    have hq : q (.v (tupD (rot ns i))) [c0, .d (tupD ns), .d (.int (i : Int))] := hq
    rw [cut_from, cut_to, ← List.map_drop, ← List.map_take, ← List.map_append]
    refine ⟨?_, hq⟩
    simp only [List.length_map, List.length_drop, List.length_take]
    exact sz (by omega)
  · rw [List.map_map] at h; exact h
theorem ring_tail {c0 : Sl} (ns : List Int) (hl : ns.length ≤ 1000) (En : EndsD) (h : ∀ ρ, ρ.take 1 = [c0] → En.rt (.d (tupD (minrot ns))) ρ) :
    (sRet (eIf (tB' (e2 wNe (eV 1) (eTup aNil))) (eB wMin1 (aCons (eLc (iRg1 (eB wLen (aCons (eV 1) aNil))) (.nm 2) tYesD (e2 wAdd (eSl (eV 1) (oSome (eV 2)) oNone) (eSl (eV 1) oNone (oSome (eV 2)))) [2]) aNil)) (eTup aNil))) En [c0, .d (tupD ns), .un] := by
  have el : (((ns.map PyData.int).length : Nat) : Int) = (ns.length : Nat) := by rw [List.length_map]
  refine ⟨Nat.zero_le _, okTI _, okTI [], ifEq (congrArg (!·) (eqv_tupD ns [])) (iteN (fun c => ?_) fun c => ?_)⟩
  · refine ⟨⟨by decide, by decide, by rw [el]; omega, by rw [el]; omega⟩, by rw [el]; exact sz (by omega), ?_⟩
    rw [el, show ((ns.length : Int) - 0).toNat = ns.length by omega]
    exact turns_lc ns hl (min_turns ns c (h _ rfl))
  · subst c
    have := h [c0, .d (tupD []), .un] rfl
    rw [minrot_nil] at this
    exact ⟨Nat.zero_le _, this⟩
end
end K12
/-! from K10 -/
section
variable {p : Ret → List Sl → Prop}
theorem plz1 : OR.PlZ 1 [1, -1] := zl_plz (by decide)
theorem plz2 : OR.PlZ 1 [-1, 1] := zl_plz (by decide)
theorem r12 {m : Nat} (hm : m = 12) : rangeD (-12) ((13 : Int) - -12).toNat = rangeD (0 - (m : Int)) (2 * m + 1) := by
  subst hm
  have e1 : ((13 : Int) - -12).toNat = 2 * 12 + 1 := by decide
  have e2 : (0 : Int) - ((12 : Nat) : Int) = -12 := by decide
  rw [e1, e2]
theorem apm {c1 : Sl} {q : List D → DL.Env → Prop} (ds : List D) (m : Nat) (e : ds = rangeD (0 - (m : Int)) (2 * m + 1)) (h : q ((zl m).map PyData.int) [.own false .src, c1, .un]) :
    lcW (.nm 2) (tB' (e2 wNe (eV 2) (eK (.int 0)))) (eV 2) [2] q ds [] [.own false .src, c1, .un] := by
  subst e
  exact zl_lc (i := 2) m rfl (fun x q hq => hq) _ (fun x q hq => hq) h
theorem nw_lc {a0 a1 a3 : Sl} {ds : List D} {fin : List D → DL.Env → Prop} (hd : ∀ d ∈ ds, Fl d) (h : fin (ds.filter fun d => !isI d) [a0, a1, .un, a3]) :
    lcW (.nm 2) (tOr' (tNot' (tTru (e1 (wIsi "int") (eV 2)))) (tTru (e1 (wIsi "bool") (eV 2)))) (eV 2) [2] fin ds [] [a0, a1, .un, a3] := by
  refine lcW_filterE (i := 2) id id (fun d => !isI d) ds (List.map_id ds).symm rfl (fun d hm q hq => ?_) (fun d hm _ q hq => by exact hq) (by rw [List.map_id]; exact h)
  rcases hd d hm with ⟨i, rfl⟩ | rfl | rfl | rfl
  · exact ⟨rfl, rfl, hq⟩
  · exact ⟨rfl, rfl, hq⟩
  · exact ⟨rfl, hq⟩
  · exact ⟨rfl, hq⟩
end
section
variable {n m h k : Nat} {P r : List Int} {out out2 some : List (List Int)} {En : EndsD} {a c : Int} {v : D} {c0 c2 c3 c4 c5 c6 c7 c8 c9 c10 c11 c12 c13 c14 c15 c16 c17 c18 c19 c20 c21 c22 c23 c24 c25 : Sl}
/-- the letter so many places behind -/
def far (P : List Int) (a : Int) (m : Nat) : Int := P[(P.idxOf a + m) % P.length]?.getD 0
theorem far_at (ha : a ∈ P) (m : Nat) : P[(P.idxOf a + m) % P.length]? = Option.some (far P a m) := by
  have hl := List.idxOf_lt_length_iff.mpr ha
  have : (P.idxOf a + m) % P.length < P.length := Nat.mod_lt _ (by omega)
  unfold far
  rw [List.getElem?_eq_getElem this]; rfl
theorem far_mem (ha : a ∈ P) (m : Nat) : far P a m ∈ P := List.mem_of_getElem? (far_at ha m)
theorem far_zero (ha : a ∈ P) : far P a 0 = a := by
  have h := far_at ha 0
  have hl := List.idxOf_lt_length_iff.mpr ha
  rw [Nat.add_zero, Nat.mod_eq_of_lt hl, List.getElem?_eq_getElem hl, List.getElem_idxOf] at h
  exact (Option.some.inj h).symm
theorem far_succ (nd : P.Nodup) (ha : a ∈ P) (m : Nat) : OR.beh P (far P a m) = far P a (m + 1) := by
  have h := OR.beh_at nd (far_at ha m)
  have h2 := far_at ha (m + 1)
  have e : ((P.idxOf a + m) % P.length + 1) % P.length = (P.idxOf a + (m + 1)) % P.length := by rw [Nat.mod_add_mod, Nat.add_assoc]
  rw [e, h2] at h
  exact (Option.some.inj h).symm
end
section
variable {En : EndsD} {c0 c2 c3 c4 c5 c6 c7 c8 c9 c10 c11 c12 c13 c14 c15 c16 c17 c18 c19 c20 c21 c22 c23 c24 c25 : Sl}
theorem pa : OR.PlZ 2 [1, 2, -1, -2] := zl_plz (by decide)
theorem pb : OR.PlZ 2 [1, -1, 2, -2] := zl_plz (by decide)
theorem pc : OR.PlZ 3 [1, 2, 3, -1, -2, -3] := zl_plz (by decide)
theorem ra : OR.rims [1, 2, -1, -2] = [[1, -2, -1, 2]] := by decide +kernel
theorem rb : (OR.rims [1, -1, 2, -2]).length = 3 := by decide +kernel
theorem rc : (OR.rims [1, 2, 3, -1, -2, -3]).length = 2 := by decide +kernel
theorem toldA : ring [1, -2, -1, 2] = [-2, -1, 2, 1] := by
  have e1 : low [1, -2, -1, 2] = [1, -2, -1, 2] := by decide +kernel
  have e2 : core [1, -2, -1, 2] = [1, -2, -1, 2] := core_stop fun c => absurd (cancB_iff.mpr c) (by decide +kernel)
  unfold ring
  rw [e1, e2]; decide +kernel
end
namespace K10
section
variable {p : Ret → List Sl → Prop}
theorem e_undone0 (ns : List Int) : ns.reverse.map (fun x => PyData.int (0 - x)) = (undone ns).map PyData.int := by simp [undone]
theorem get_at {P : List Int} {x : Int} {q : D → Prop} (hx : x ∈ P) (h : q (.int (P.idxOf x : Nat))) : wGetK (pk 0 P) (.int x) q :=
  ⟨.inl x, _, rfl, pk_val hx, by rw [Nat.zero_add]; exact h⟩
theorem turns_lc {c0 : Sl} {fin : List D → DL.Env → Prop} (ns : List Int) (hl : ns.length ≤ 1000) (h : fin (((List.range ns.length).map (rot ns)).map tupD) [c0, .d (tupD ns), .un]) :
    lcW (.nm 2) tYesD (e2 wAdd (eSl (eV 1) (oSome (eV 2)) oNone) (eSl (eV 1) oNone (oSome (eV 2)))) [2] fin (rangeD 0 ns.length) [] [c0, .d (tupD ns), .un] := by
  refine lcW_mapE (fun (i : Nat) => PyData.int (0 + (i : Int))) (fun i => tupD (rot ns i)) (List.range ns.length) (rangeD_eq 0 _) rfl (fun i hi q hq => ?_) ?_
  · rw [Int.zero_add] at *
    show (cutD (ns.map PyData.int) (some (i : Int)) none).length + (cutD (ns.map PyData.int) none (some (i : Int))).length ≤ sizeLine ∧ q (.v (.tuple (cutD (ns.map PyData.int) (some (i : Int)) none ++ cutD (ns.map PyData.int) none (some (i : Int))))) [c0, .d (tupD ns), .d (.int (i : Int))]
    have hq : q (.v (tupD (rot ns i))) [c0, .d (tupD ns), .d (.int (i : Int))] := hq
    rw [cut_from, cut_to, ← List.map_drop, ← List.map_take, ← List.map_append]
    refine ⟨?_, hq⟩
    simp only [List.length_map, List.length_drop, List.length_take]
    exact sz (by omega)
  · rw [List.map_map] at h; exact h
theorem ring_tail {c0 : Sl} (ns : List Int) (hl : ns.length ≤ 1000) (En : EndsD) (h : ∀ ρ, ρ.take 1 = [c0] → En.rt (.d (tupD (minrot ns))) ρ) :
    (sRet (eIf (tB' (e2 wNe (eV 1) (eTup aNil))) (eB wMin1 (aCons (eLc (iRg1 (eB wLen (aCons (eV 1) aNil))) (.nm 2) tYesD (e2 wAdd (eSl (eV 1) (oSome (eV 2)) oNone) (eSl (eV 1) oNone (oSome (eV 2)))) [2]) aNil)) (eTup aNil))) En [c0, .d (tupD ns), .un] := by
  have el : (((ns.map PyData.int).length : Nat) : Int) = (ns.length : Nat) := by rw [List.length_map]
  refine ⟨Nat.zero_le _, okTI _, okTI [], ifEq (congrArg (!·) (eqv_tupD ns [])) (iteN (fun c => ?_) fun c => ?_)⟩
  · refine ⟨⟨by decide, by decide, by rw [el]; omega, by rw [el]; omega⟩, by rw [el]; exact sz (by omega), ?_⟩
    rw [el, show ((ns.length : Int) - 0).toNat = ns.length by omega]
    exact turns_lc ns hl (min_turns ns c (h _ rfl))
  · subst c
    have := h [c0, .d (tupD []), .un] rfl
    rw [minrot_nil] at this
    exact ⟨Nat.zero_le _, this⟩
end
section
variable {n m h k : Nat} {P r : List Int} {out out2 some : List (List Int)} {En : EndsD} {a c : Int} {v : D} {c0 c2 c3 c4 c5 c6 c7 c8 c9 c10 c11 c12 c13 c14 c15 c16 c17 c18 c19 c20 c21 c22 c23 c24 c25 : Sl}
theorem nd_at {P : List Int} (nd : P.Nodup) {i : Nat} {c : Int} (h : P[i]? = Option.some c) : P.idxOf c = i := by
  have hi : i < P.length := by
    by_cases q : i < P.length
    · exact q
    · rw [List.getElem?_eq_none (by omega)] at h; cases h
  rw [List.getElem?_eq_getElem hi] at h
  have h := Option.some.inj h
  have hc : c ∈ P := h ▸ List.getElem_mem hi
  have hl := List.idxOf_lt_length_iff.mpr hc
  have e := List.getElem_idxOf hl
  exact (List.getElem_inj nd).mp (e.trans h.symm)
end
section
variable {En : EndsD} {c0 c2 c3 c4 c5 c6 c7 c8 c9 c10 c11 c12 c13 c14 c15 c16 c17 c18 c19 c20 c21 c22 c23 c24 c25 : Sl}
def toldD : D := .list [.tuple [tupD [-2, -1, 2, 1]], .tuple [.int 0, .int 3], .tuple [.int 1, .int 2]]
end
end K10
/-! from K11 -/
section
variable {p : Ret → List Sl → Prop} {c1 c2 c3 c4 c5 c6 : Sl}
theorem left_lc {P : List Int} {left row : List Int} {fin : List D → DL.Env → Prop} (h : fin ((left.filter fun x => !decide (x ∈ row)).map PyData.int) [.d (tupD P), c1, c2, .own true (.lst (row.map PyData.int)), c4, c5, .un]) :
    lcW (.nm 6) (tB' (e2 wNotIn (eV 6) (eV 3))) (eV 6) [6] fin (left.map PyData.int) [] [.d (tupD P), c1, c2, .own true (.lst (row.map PyData.int)), c4, c5, .un] := by
  refine lcW_filterE (i := 6) PyData.int PyData.int (fun x => !decide (x ∈ row)) left rfl rfl (fun x hx q hq => ?_) (fun x hx _ q hq => hq) h
  refine ⟨.inl ⟨rfl, flat_all row⟩, ?_⟩
  show q (!anyD (.int x) (row.map PyData.int)) _
  rw [any_mem]; exact hq
theorem same_rim {n : Nat} {P : List Int} (hP : OR.PlZ n P) (hn : 1 ≤ n) {r s : List Int} (hr : r ∈ OR.rims P) (hs : s ∈ OR.rims P) {x : Int} (h1 : x ∈ r) (h2 : x ∈ s) : r = s := by
  have nd : (OR.rims P).flatten.Nodup := (OR.rims_dec hP hn).perm.nodup_iff.mpr hP.nd
  have e1 := OR.find_rim nd hr h1
  have e2 := OR.find_rim nd hs h2
  rw [e1] at e2
  exact Option.some.inj e2
end
section
variable {p : Ret → List Sl → Prop} {En : EndsD} {c1 c2 c3 c4 c5 c6 c7 c8 c9 c10 c11 : Sl}
def prD (q : Nat × Nat) : D := .tuple [.int (q.1 : Int), .int (q.2 : Int)]
def edgesF (P : List Int) : Nat → List Int → List (Nat × Nat)
  | _, [] => []
  | k, x :: r => (2 * k, 2 * P.idxOf (0 - x) + 1) :: edgesF P (k + 1) r
theorem edgesF_eq (P : List Int) : ∀ (r : List Int) (k : Nat), edgesF P k r = (List.range r.length).map fun i => (2 * (k + i), 2 * P.idxOf (0 - r.getD i 0) + 1)
  | [], k => rfl
  | x :: r, k => by
    show (2 * k, 2 * P.idxOf (0 - x) + 1) :: edgesF P (k + 1) r = _
    rw [edgesF_eq P r (k + 1), List.length_cons, List.range_succ_eq_map, List.map_cons, List.map_map]
    congr 1
    refine List.map_congr_left fun i _ => ?_
    show (2 * (k + 1 + i), _) = (2 * (k + (i + 1)), 2 * P.idxOf (0 - (x :: r).getD (i + 1) 0) + 1)
    rw [show k + 1 + i = k + (i + 1) by omega]
    rfl
theorem edges_eq (P : List Int) : OR.edges P = edgesF P 0 P := by
  rw [edgesF_eq]
  unfold OR.edges
  refine List.map_congr_left fun i _ => ?_
  rw [Nat.zero_add]
theorem lab_at {J : List Int} {a : Nat} (ha : a < J.length) : J[a]? = some (OR.lab J a) := by
  unfold OR.lab
  rw [List.getD_eq_getElem?_getD, List.getElem?_eq_getElem ha]; rfl
theorem arcs_lc {P : List Int} {fin : List D → DL.Env → Prop} (h1 : 1 ≤ P.length) (h2 : P.length ≤ 400) (h : fin ((OR.arcs P.length).map prD) [.d (tupD P), .d (.int (P.length : Nat)), c2, c3, .un, c5, c6, c7, c8, c9, c10, c11]) :
    lcW (.nm 4) tYesD (eTup (aCons (e2 wAdd (e2 wMul (eK (.int 2)) (eV 4)) (eK (.int 1))) (aCons (e2 wMod (eB wInt1 (aCons (e2 wMul (eK (.int 2)) (e2 wAdd (eV 4) (eK (.int 1)))) aNil)) (e2 wMul (eK (.int 2)) (eV 1))) aNil))) [4] fin (rangeD 0 P.length) [] [.d (tupD P), .d (.int (P.length : Nat)), c2, c3, .un, c5, c6, c7, c8, c9, c10, c11] := by
  refine lcW_mapE (fun (i : Nat) => PyData.int (0 + (i : Int))) (fun i => prD (2 * i + 1, 2 * (i + 1) % (2 * P.length))) (List.range P.length) (rangeD_eq 0 _) rfl (fun i hi q hq => ?_) ?_
  · have hi := List.mem_range.mp hi
    rw [Int.zero_add] at hq ⊢
    have m1 : mulOk 2 (i : Int) := .inl (.inl ⟨by decide, by decide⟩)
    have m2 : mulOk 2 ((i : Int) + 1) := .inl (.inl ⟨by decide, by decide⟩)
    have m3 : mulOk 2 ((P.length : Nat) : Int) := .inl (.inl ⟨by decide, by decide⟩)
    refine ⟨m1, m2, m3, by omega, sz (by show 2 ≤ 1000; omega), ?_⟩
    have e : (2 * ((i : Int) + 1)).fmod (2 * (P.length : Int)) = ((2 * (i + 1) % (2 * P.length) : Nat) : Int) := by
      rw [show 2 * ((i : Int) + 1) = ((2 * (i + 1) : Nat) : Int) by omega, show 2 * (P.length : Int) = ((2 * P.length : Nat) : Int) by omega, fmod_nat, ← Int.natCast_emod]
    rw [e]
    exact hq
  · have : (List.range P.length).map (fun i => prD (2 * i + 1, 2 * (i + 1) % (2 * P.length))) = (OR.arcs P.length).map prD := by unfold OR.arcs; rw [List.map_map]; rfl
    rw [this]; exact h
theorem join_lc {J : List Int} {a b : Int} {fin : List D → DL.Env → Prop} {c0 : Sl} (h : fin ((J.map fun x => if x = a then b else x).map PyData.int) [c0, c1, .d (lstD J), c3, c4, c5, c6, c7, c8, .d (.int a), .d (.int b), .un]) :
    lcW (.nm 11) tYesD (eIf (tB' (e2 wEq (eV 11) (eV 9))) (eV 10) (eV 11)) [11] fin (J.map PyData.int) [] [c0, c1, .d (lstD J), c3, c4, c5, c6, c7, c8, .d (.int a), .d (.int b), .un] := by
  refine lcW_mapE (i := 11) PyData.int (fun x => .int (if x = a then b else x)) J rfl rfl (fun x hx q hq => ?_) (by rw [List.map_map] at h; exact h)
  refine iteD (fun c => ?_) fun c => ?_
  · rw [if_pos c] at hq; exact hq
  · rw [if_neg c] at hq; exact hq
theorem firsts_lc {J : List Int} {c0 : Sl} {fin : List D → DL.Env → Prop} : ∀ (rest pre acc : List Int), J = pre ++ rest → fin ((acc ++ OR.firsts pre rest).map PyData.int) [c0, c1, .d (lstD J), c3, .un, c5, c6, c7, c8, c9, c10, .un] →
    lcW (.tup [.nm 4, .nm 11]) (tB' (e2 wEq (eIdx (eV 2) (eV 11)) (eV 4))) (eV 11) [4, 11] fin (enumD pre.length (rest.map PyData.int)) (acc.map PyData.int) [c0, c1, .d (lstD J), c3, .un, c5, c6, c7, c8, c9, c10, .un]
  | [], pre, acc, e, h => by
    have : acc ++ OR.firsts pre [] = acc := List.append_nil acc
    rw [this] at h; exact h
  | x :: rest, pre, acc, e, h => by
    have hx : x ∈ J := by rw [e]; simp
    have lp : (pre ++ [x]).length = pre.length + 1 := by simp
    refine ⟨⟨rfl, flat_all J⟩, J.idxOf x, .int x, first_get hx, first_eq _, first_min hx, ?_⟩
    have ei : (((J.idxOf x : Nat) : Int) = ((pre.length : Nat) : Int)) ↔ ¬ x ∈ pre := by
      rw [e, List.idxOf_append]
      by_cases c : x ∈ pre
      · rw [if_pos c]
        have := List.idxOf_lt_length_iff.mpr c
        constructor
        · intro q; omega
        · intro q; exact absurd c q
      · rw [if_neg c, List.idxOf_cons_self]
        constructor
        · intro _; exact c
        · intro _; omega
    unfold OR.firsts at h
    refine iteD (fun c => ?_) fun c => ?_
    · rw [if_neg (ei.mp c)] at h
      have := firsts_lc (J := J) (c0 := c0) (fin := fin) rest (pre ++ [x]) (acc ++ [x]) (by rw [e]; simp) (by rw [List.append_assoc]; exact h)
      rw [List.map_append (l₁ := acc), lp] at this
      exact this
    · rw [if_pos (Classical.not_not.mp fun q => c (ei.mpr q))] at h
      have := firsts_lc (J := J) (c0 := c0) (fin := fin) rest (pre ++ [x]) acc (by rw [e]; simp) h
      rw [lp] at this
      exact this
end
section
variable {n m h k : Nat} {P r names : List Int} {out out2 due : List (List Int)} {En : EndsD} {c0 c2 c3 c4 c5 c6 c7 c8 c9 c10 c11 c12 c13 c14 c15 c16 c17 c18 c19 c20 c21 c22 c23 c24 c25 : Sl}
theorem cut_turn (P : List Int) (k : Nat) : cutD (P.map PyData.int) (some (k : Int)) none ++ cutD (P.map PyData.int) none (some (k : Int)) = (P.drop k ++ P.take k).map PyData.int := by rw [cut_from, cut_to, ← List.map_drop, ← List.map_take, ← List.map_append]
theorem shP {Q : List Int} (hQ : OR.PlZ n Q) (hn : n ≤ 6) : shownOk (tupD Q) := shT (fun x hx => by
    have := (hQ.mem x).mp hx
    have b : (20 : Nat) < 10 ^ 12 := by decide
    omega) (by have := hQ.len; omega)
end
section
variable {n m h k : Nat} {P r names : List Int} {out out2 due : List (List Int)} {En : EndsD} {c0 c2 c3 c4 c5 c6 c7 c8 c9 c10 c11 c12 c13 c14 c15 c16 c17 c18 c19 c20 c21 c22 c23 c24 c25 : Sl}
variable {l : Int} {sm : List (List Int)}
def rowf (h i : Nat) : List Int := if i ≤ 2 * h then pl1 ((i + 1) / 2) else pl1 h ++ pl2 h (i - 2 * h)
theorem rowf_len (h i : Nat) (hi : i ≤ 20) (hh : h ≤ 20) : (rowf h i).length ≤ 200 := by
  unfold rowf
  split
  · rw [pl1_len]; omega
  · rw [List.length_append, pl1_len, pl2_len]; omega
theorem rowf_zero (h : Nat) : rowf h 0 = [] := rfl
theorem rowf_end {h m n : Nat} (e : 2 * h + m = n + 1) (m1 : 1 ≤ m) : rowf h n = plain h m := by
  unfold rowf
  rw [plain_eq]
  by_cases c : n ≤ 2 * h
  · rw [if_pos c, show m = 1 by omega, show (n + 1) / 2 = h by omega]
    show pl1 h = pl1 h ++ []
    rw [List.append_nil]
  · rw [if_neg c, show n - 2 * h = m - 1 by omega]
theorem ne_of (hP : OR.PlZ n P) (hn : 1 ≤ n) : P.map PyData.int ≠ [] := fun e => by
  have := congrArg List.length e
  rw [List.length_map, hP.len] at this
  simp at this; omega
theorem orb_of (hP : OR.PlZ n P) (hn : 1 ≤ n ∧ n ≤ 6) (hl : l ∈ P) : ∃ t, OR.orb (OR.phi P) P.length l = l :: t ∧ (l :: t).Nodup ∧ t.length < P.length ∧ ∃ r ∈ OR.rims P, ring (l :: t) = ring r := by
  have D := OR.rims_dec hP hn.1
  obtain ⟨t, eo, lk, n1, ht, hlen⟩ := OR.orb_cyc hP.nd D hl
  obtain ⟨r, hr, hx⟩ := List.mem_flatten.mp (D.perm.mem_iff.mpr hl)
  obtain ⟨u, v, er, lk2⟩ := OR.cyc_at (D.cyc r hr) hx
  have ndr := rim_nd hP hn.1 hr
  have n2 : (l :: (v ++ u)).Nodup := by
    rw [er] at ndr
    exact (List.perm_append_comm (l₁ := u) (l₂ := l :: v)).nodup_iff.mp ndr
  have et : t = v ++ u := OR.link_uniq (List.nodup_cons.mp n1).1 (List.nodup_cons.mp n2).1 lk lk2
  refine ⟨t, eo, n1, hlen, r, hr, ?_⟩
  rw [et, er]
  exact ring_rot (l :: v) u
theorem okRowsT (rows : List (List Int)) : eqOk (.tuple (rows.map tupD)) := okRows rows
theorem cnt_one {row : List Int} (nd : row.Nodup) {x : Int} (hx : x ∈ row) : ((row.map PyData.int).countP fun d => PyData.eqv d (.int x)) = 1 := by
  rw [List.countP_map]
  have : (row.countP ((fun d => PyData.eqv d (.int x)) ∘ PyData.int)) = row.count x := by
    unfold List.count
    refine List.countP_congr fun y _ => ?_
    show PyData.eqv (.int y) (.int x) = true ↔ (y == x) = true
    rw [eqv_int, decide_eq_true_eq, beq_iff_eq]
  rw [this]
  exact nd.count.trans (if_pos hx)
theorem cnt_lc {row : List Int} {fin : List D → DL.Env → Prop} (nd : row.Nodup) (hh : fin [] [c0, .own true .src, c2, c3, c4, c5, c6, c7, c8, c9, c10, c11, c12, c13, c14, c15, .d (tupD row), c17, c18, c19, c20, c21, .un, c23, c24, c25]) :
    lcW (.nm 22) (tB' (e2 wGt (eCount (eV 16) (eV 22)) (eK (.int 1)))) (eV 22) [22] fin (row.map PyData.int) [] [c0, .own true .src, c2, c3, c4, c5, c6, c7, c8, c9, c10, c11, c12, c13, c14, c15, .d (tupD row), c17, c18, c19, c20, c21, .un, c23, c24, c25] := by
  refine lcW_filterE (i := 22) PyData.int PyData.int (fun x => false) row rfl rfl (fun x hx q hq => ?_) (fun x hx h0 _ _ => nomatch h0) (by rw [List.filter_eq_nil_iff.mpr fun _ _ => by simp]; exact hh)
  refine ⟨⟨rfl, flat_all row⟩, ?_⟩
  have e := cnt_one nd hx
  rw [e]
  exact hq
theorem places2 {fin : List D → DL.Env → Prop} : ∀ (Q : List Int) (k : Nat) (acc : List D), fin (acc ++ (pk k Q).map DL.pairD) [c0, .own true .src, c2, c3, c4, c5, c6, c7, c8, c9, c10, c11, c12, c13, c14, c15, c16, c17, c18, c19, c20, c21, c22, c23, .un, .un] →
    lcW (.tup [.nm 24, .nm 25]) tYesD (eTup (aCons (eV 25) (aCons (eV 24) aNil))) [24, 25] fin (enumD k (Q.map PyData.int)) acc [c0, .own true .src, c2, c3, c4, c5, c6, c7, c8, c9, c10, c11, c12, c13, c14, c15, c16, c17, c18, c19, c20, c21, c22, c23, .un, .un]
  | [], k, acc, h => by
    have : acc ++ (pk k []).map DL.pairD = acc := List.append_nil acc
    rw [this] at h; exact h
  | x :: r, k, acc, h => by
    refine ⟨sz (by show 2 ≤ 1000; omega), ?_⟩
    refine places2 r (k + 1) (acc ++ [.tuple [.int x, .int (k : Int)]]) ?_
    rw [List.append_assoc]; exact h
theorem pk_mem : ∀ {Q : List Int} {k : Nat} {q : Key × D}, q ∈ pk k Q → ∃ (x : Int) (j : Nat), x ∈ Q ∧ Q[j]? = Option.some x ∧ q = (.inl x, .int ((k + j : Nat) : Int))
  | x :: r, k, q, h => by
    rcases List.mem_cons.mp h with rfl | h
    · exact ⟨x, 0, List.mem_cons_self, rfl, rfl⟩
    · obtain ⟨y, j, h1, h2, rfl⟩ := pk_mem h
      exact ⟨y, j + 1, List.mem_cons_of_mem _ h1, h2, by rw [show k + 1 + j = k + (j + 1) by omega]⟩
end
namespace K11
section
variable {p : Ret → List Sl → Prop}
theorem e_undone0 (ns : List Int) : ns.reverse.map (fun x => PyData.int (0 - x)) = (undone ns).map PyData.int := by simp [undone]
theorem get_at {P : List Int} {x : Int} {q : D → Prop} (hx : x ∈ P) (h : q (.int (P.idxOf x : Nat))) : wGetK (pk 0 P) (.int x) q :=
  ⟨.inl x, _, rfl, pk_val hx, by rw [Nat.zero_add]; exact h⟩
theorem turns_lc {c0 : Sl} {fin : List D → DL.Env → Prop} (ns : List Int) (hl : ns.length ≤ 1000) (h : fin (((List.range (max 1 ns.length)).map (rot ns)).map tupD) [c0, .d (tupD ns), .un]) :
    lcW (.nm 2) tYesD (e2 wAdd (eSl (eV 1) (oSome (eV 2)) oNone) (eSl (eV 1) oNone (oSome (eV 2)))) [2] fin (rangeD 0 (max 1 ns.length)) [] [c0, .d (tupD ns), .un] := by
  refine lcW_mapE (fun (i : Nat) => PyData.int (0 + (i : Int))) (fun i => tupD (rot ns i)) (List.range (max 1 ns.length)) (rangeD_eq 0 _) rfl (fun i hi q hq => ?_) ?_
  · rw [Int.zero_add] at *
    show (cutD (ns.map PyData.int) (some (i : Int)) none).length + (cutD (ns.map PyData.int) none (some (i : Int))).length ≤ sizeLine ∧ q (.v (.tuple (cutD (ns.map PyData.int) (some (i : Int)) none ++ cutD (ns.map PyData.int) none (some (i : Int))))) [c0, .d (tupD ns), .d (.int (i : Int))]
    have hq : q (.v (tupD (rot ns i))) [c0, .d (tupD ns), .d (.int (i : Int))] := hq
    rw [cut_from, cut_to, ← List.map_drop, ← List.map_take, ← List.map_append]
    refine ⟨?_, hq⟩
    simp only [List.length_map, List.length_drop, List.length_take]
    exact sz (by omega)
  · rw [List.map_map] at h; exact h
theorem ring_tail {c0 : Sl} (ns : List Int) (hl : ns.length ≤ 1000) (En : EndsD) (h : ∀ ρ, ρ.take 1 = [c0] → En.rt (.d (tupD (minrot ns))) ρ) :
    (sRet (eB wMin1 (aCons (eLc (iRg1 (eB wMax2 (aCons (eK (.int 1)) (aCons (eB wLen (aCons (eV 1) aNil)) aNil)))) (.nm 2) tYesD (e2 wAdd (eSl (eV 1) (oSome (eV 2)) oNone) (eSl (eV 1) oNone (oSome (eV 2)))) [2]) aNil))) En [c0, .d (tupD ns), .un] := by
  have e1 : (if (((ns.map PyData.int).length : Nat) : Int) > 1 then (((ns.map PyData.int).length : Nat) : Int) else 1) = ((max 1 ns.length : Nat) : Int) := by
    rw [List.length_map]; split <;> omega
  refine ⟨⟨by decide, by decide, by rw [e1]; omega, by rw [e1]; omega⟩, by rw [e1]; exact sz (by omega), ?_⟩
  rw [e1, show (((max 1 ns.length : Nat) : Int) - 0).toNat = max 1 ns.length by omega]
  exact turns_lc ns hl (min_rots ns (h _ rfl))
end
section
variable {p : Ret → List Sl → Prop} {n m h k : Nat} {P r names : List Int} {out out2 due : List (List Int)} {ds : List D} {far : List Int}
structure Ty (n h m : Nat) (P : List Int) : Prop where
  m1 : 1 ≤ m
  e : 2 * h + m = n + 1
  rl : (OR.rims P).length = m
end
section
variable {n m h k : Nat} {P r names : List Int} {out out2 due : List (List Int)} {En : EndsD} {c0 c2 c3 c4 c5 c6 c7 c8 c9 c10 c11 c12 c13 c14 c15 c16 c17 c18 c19 c20 c21 c22 c23 c24 c25 : Sl}
variable {l : Int} {sm : List (List Int)} {ds : List D}
def far (m : Nat) : List Int := (List.range m).map (fun (i : Nat) => 1 + (i : Int)) ++ (List.range m).map fun (i : Nat) => 0 - (m : Int) + (i : Int)
theorem far_eq (m : Nat) : rangeD 1 m ++ rangeD (0 - (m : Int)) m = (far m).map PyData.int := by
  unfold far
  rw [List.map_append, List.map_map, List.map_map]; rfl
theorem farm_len (m : Nat) : (far m).length = 2 * m := by unfold far; rw [List.length_append, List.length_map, List.length_map, List.length_range]; omega
theorem far12 : isPl (far 12) = true := by decide +kernel
theorem far13 : isPl (far 13) = false := isPl_long (by rw [farm_len]; decide)
theorem far_te {q : Op → DL.Env → Prop} {m : Nat} (hm : m = 12 ∨ m = 13) (hq : q (.v (tupD (far m))) [c0, .own true .src, c2, c3, c4, c5, c6, c7, c8, c9, c10, c11, c12, c13, c14, c15, c16, c17, c18, c19, c20, .d (.int ((m : Nat) : Int)), c22, c23, c24, c25]) :
    (eB wTupOf (aCons (e2 wAdd (eLstRg2 (eK (.int 1)) (e2 wAdd (eV 21) (eK (.int 1)))) (eLstRg2 (e2 wSub (eK (.int 0)) (eV 21)) (eK (.int 0)))) aNil)) [c0, .own true .src, c2, c3, c4, c5, c6, c7, c8, c9, c10, c11, c12, c13, c14, c15, c16, c17, c18, c19, c20, .d (.int ((m : Nat) : Int)), c22, c23, c24, c25] q := by
  have a1 : ((m : Int) + 1 - 1).toNat = m := by omega
  have a2 : ((0 : Int) - (0 - (m : Int))).toNat = m := by omega
  refine ⟨⟨by decide, by decide, by omega, by omega⟩, by rw [a1]; exact sz (by omega), ⟨by omega, by omega, by decide, by omega⟩, by rw [a2]; exact sz (by omega), ?_⟩
  rw [a1, a2]
  have l1 : (rangeD 1 m).length = m := rangeD_length _ _
  have l2 : (rangeD (0 - (m : Int)) m).length = m := rangeD_length _ _
  refine ⟨by rw [l1, l2]; exact sz (by omega), ?_⟩
  rw [far_eq]
  exact hq
theorem far_lc {fin : List D → DL.Env → Prop} {ms : List Nat} (hm : ∀ m ∈ ms, m = 12 ∨ m = 13) (hh : fin (ms.map fun m => tupD (far m)) [c0, .own true .src, c2, c3, c4, c5, c6, c7, c8, c9, c10, c11, c12, c13, c14, c15, c16, c17, c18, c19, c20, .un, c22, c23, c24, c25]) :
    lcW (.nm 21) tYesD (eB wTupOf (aCons (e2 wAdd (eLstRg2 (eK (.int 1)) (e2 wAdd (eV 21) (eK (.int 1)))) (eLstRg2 (e2 wSub (eK (.int 0)) (eV 21)) (eK (.int 0)))) aNil)) [21] fin (ms.map fun m => PyData.int ((m : Nat) : Int)) [] [c0, .own true .src, c2, c3, c4, c5, c6, c7, c8, c9, c10, c11, c12, c13, c14, c15, c16, c17, c18, c19, c20, .un, c22, c23, c24, c25] :=
  lcW_mapE (i := 21) (fun m => PyData.int ((m : Nat) : Int)) (fun m => tupD (far m)) ms rfl rfl (fun m hmm q hq => far_te (hm m hmm) hq) hh
end
end K11
/-! from K08 -/
section
variable {p : Ret → List Sl → Prop}
def likeOf (a b : List Int) : Str := if ring a = ring b then "along" else if ring (undone (ring a)) = ring b then "against" else "no"
/-- 0 < abs(x) <= n -/
def inR (n x : Int) : Bool := decide (0 < absI x) && decide (absI x ≤ n)
theorem inR_ch {n x : Int} {ρ : DL.Env} {q : Op → DL.Env → Prop} (h : q (.v (.bool (inR n x))) ρ) :
    if decide (0 < absI x) = true then q (.v (.bool (decide (absI x ≤ n)))) ρ else q (.v (.bool false)) ρ := by
  unfold inR at h
  by_cases c : 0 < absI x
  · rw [if_pos (decide_eq_true c)]; rw [decide_eq_true c] at h; exact h
  · rw [if_neg (by simp [c])]; rw [decide_eq_false c] at h; exact h
theorem inR_iff {n x : Int} : inR n x = true ↔ okL' n x := by
  unfold inR absI okL'
  rw [Bool.and_eq_true, decide_eq_true_eq, decide_eq_true_eq]
  split <;> omega
/-- ns[k] != -ns[k - 1] -/
def step (ns : List Int) (k : Nat) : Bool := !decide ((atI ns (k : Int)).getD 0 = -((atI ns ((k : Int) - 1)).getD 0))
theorem step_v {ns : List Int} {k : Nat} (hk : k < ns.length) : ∃ x y, atI ns (k : Int) = some x ∧ atI ns ((k : Int) - 1) = some y ∧ step ns k = !decide (x = -y) := by
  have e1 := atI_at ns k hk
  have e2 : ∃ y, atI ns ((k : Int) - 1) = some y := by
    by_cases h0 : k = 0
    · subst h0; exact ⟨_, atI_back ns fun e => by rw [e] at hk; cases hk⟩
    · refine ⟨ns[k - 1], ?_⟩
      have := atI_at ns (k - 1) (by omega)
      rw [show ((k - 1 : Nat) : Int) = (k : Int) - 1 by omega] at this
      exact this
  obtain ⟨y, e2⟩ := e2
  exact ⟨_, y, e1, e2, by unfold step; rw [e1, e2]; rfl⟩
theorem red_iff {ns : List Int} : Red ns ↔ ∀ k, 1 ≤ k → k < ns.length → step ns k = true := by
  constructor
  · intro hr k h1 h2
    have e1 := atI_at ns k h2
    have e2 := atI_at ns (k - 1) (by omega)
    rw [show ((k - 1 : Nat) : Int) = (k : Int) - 1 by omega] at e2
    unfold step
    rw [e1, e2]
    show (!decide (ns[k] = -ns[k - 1])) = true
    rw [Bool.not_eq_true', decide_eq_false_iff_not]
    intro e
    refine hr (ns.take (k - 1)) ns[k - 1] (ns.drop (k + 1)) ?_
    rw [← e]
    have a1 : ns.drop (k - 1) = ns[k - 1] :: ns.drop k := by
      have := List.drop_eq_getElem_cons (l := ns) (i := k - 1) (by omega)
      rw [show k - 1 + 1 = k by omega] at this; exact this
    have a2 : ns.drop k = ns[k] :: ns.drop (k + 1) := List.drop_eq_getElem_cons h2
    rw [← a2, ← a1, List.take_append_drop]
  · intro h u x v e
    have hk := h (u.length + 1) (by omega) (by rw [e]; simp)
    have e1 : ns[u.length + 1]? = some (-x) := by rw [e]; simp
    have e2 : ns[u.length]? = some x := by rw [e]; simp
    unfold step at hk
    rw [atI_nat e1, show ((u.length + 1 : Nat) : Int) - 1 = (u.length : Int) by omega, atI_nat e2] at hk
    simp at hk
theorem cyc_iff {ns : List Int} (hz : nz ns) : (List.range ns.length).all (step ns) = true ↔ Red ns ∧ ¬ Canc ns := by
  rw [List.all_eq_true]
  constructor
  · intro h
    refine ⟨red_iff.mpr fun k _ hk => h k (List.mem_range.mpr hk), fun ⟨x, m, e⟩ => ?_⟩
    have h0 := h 0 (List.mem_range.mpr (by rw [e]; simp))
    unfold step at h0
    have e1 : atI ns ((0 : Nat) : Int) = some x := by rw [e]; exact atI_zero x _
    have e2 : atI ns (((0 : Nat) : Int) - 1) = some (-x) := by
      have := atI_last (x :: m) (-x)
      rw [e]; exact this
    rw [e1, e2] at h0
    simp at h0
  · rintro ⟨hr, hc⟩ k hk
    have hk := List.mem_range.mp hk
    by_cases h0 : k = 0
    · subst h0
      cases ns with
      | nil => cases hk
      | cons x r =>
        unfold step
        have e1 : atI (x :: r) ((0 : Nat) : Int) = some x := atI_zero x r
        have e2 := atI_back (x :: r) (by simp)
        rw [e1, show ((0 : Nat) : Int) - 1 = -1 by omega, e2]
        show (!decide (x = -(x :: r).getLast _)) = true
        rw [Bool.not_eq_true', decide_eq_false_iff_not]
        intro e
        by_cases hrn : r = []
        · subst hrn
          have e' : x = -x := e
          exact hz x List.mem_cons_self (by omega)
        · rw [List.getLast_cons hrn] at e
          have e3 := List.dropLast_concat_getLast hrn
          exact hc ⟨x, r.dropLast, by rw [show -x = r.getLast hrn by omega, e3]⟩
    · exact red_iff.mp hr k (by omega) hk
theorem len_b (ns : List Int) (hl : ns.length ≤ 1000) : -(2 ^ 62) ≤ (((ns.map PyData.int).length : Nat) : Int) ∧ (((ns.map PyData.int).length : Nat) : Int) < 2 ^ 62 := by rw [List.length_map]; omega
/-- is_ring, as a truth -/
def isRingB (ns : List Int) (n : Int) : Bool := ns.all (inR n) && ((List.range ns.length).all (step ns) && decide ((leastTurn ns : Int) = 0))
theorem filter_none {α : Type} (xs : List α) {g : α → Bool} (h : ∀ x ∈ xs, g x = false) : xs.filter g = [] := List.filter_eq_nil_iff.mpr fun x hx => by rw [h x hx]; decide
/-- the law's own is_ring, as a truth -/
def lawRingB (ns : List Int) (n : Int) : Bool := ns.all (inR n) && decide (ring ns = ns)
theorem ringB_eq (ns : List Int) (n : Int) : isRingB ns n = lawRingB ns n := by
  unfold isRingB lawRingB
  cases h : ns.all (inR n) with
  | false => rfl
  | true =>
    rw [Bool.true_and, Bool.true_and]
    have hz : nz ns := fun x hx => (inR_iff.mp (List.all_eq_true.mp h x hx)).1
    rw [Bool.eq_iff_iff, Bool.and_eq_true, decide_eq_true_eq, decide_eq_true_eq, cyc_iff hz, ring_fix]
    constructor
    · rintro ⟨⟨h1, h2⟩, h3⟩; exact ⟨h1, h2, by omega⟩
    · rintro ⟨h1, h2, h3⟩; exact ⟨⟨h1, h2⟩, by omega⟩
def small (ns : List Int) : Prop := ∀ n ∈ ns, n.natAbs < 10 ^ 12
end
theorem okL_small {n x : Int} (hn : n ≤ 100) (h : okL' n x) : x.natAbs < 10 ^ 12 := by have := h.2; omega
section
variable {En : EndsD} {c0 c2 c3 c4 c5 c6 c7 c8 c9 c10 c11 c12 c13 c14 c15 c16 c17 : Sl} {n : Int} {row more w b R L : List Int} {k : Nat}
def dueOf (R : List Int) : Str := if R = [] then "along" else "against"
def due2 (R L : List Int) : Str := if L = R then "along" else if L = ring (undone R) then "against" else "no"
def odd1 (R : List Int) (n : Int) : List D := [.tuple (R.map PyData.int).reverse, .tuple (R.map PyData.int ++ [.int 1]), .tuple (R.map PyData.int ++ [.int 0]), lstD R, .tuple [.int (n + 1)], .tuple [.bool true], .tuple [.str "1"], .none]
def odd2 (R : List Int) : List D := [if 1 < R.length then tupD (rot R 1) else tupD [], tupD [1, -1], tupD (undone R)]
end
section
variable {En : EndsD}
theorem core_two (x y : Int) (h : ¬ Canc [x, y]) : core [x, y] = [x, y] := core_stop h
theorem red_told1 : Red [2, 1, 1, -2] := by
  have := red_low [2, 1, 1, -2]
  rw [show low [2, 1, 1, -2] = [2, 1, 1, -2] by decide +kernel] at this; exact this
theorem red_told2 : Red [1, -2, -1, 2] := by
  have := red_low [1, -2, -1, 2]
  rw [show low [1, -2, -1, 2] = [1, -2, -1, 2] by decide +kernel] at this; exact this
theorem like_nil : likeOf [] [] = "along" := if_pos rfl
end
namespace K08
section
variable {p : Ret → List Sl → Prop}
theorem e_undone (ns : List Int) : ns.reverse.map (fun x => PyData.int (-x)) = (undone ns).map PyData.int := by simp [undone]
theorem e_undone0 (ns : List Int) : ns.reverse.map (fun x => PyData.int (0 - x)) = (undone ns).map PyData.int := by simp [undone]
/-- whether the ends cancel, as the texts ask it -/
theorem canc_if {ns : List Int} {K : D → D → Prop} {qf : Prop} (h1 : ∀ x m, ns = x :: (m ++ [-x]) → K (.int x) (.int (-x))) (h2 : ∀ x y, ¬ Canc ns → x ≠ -y → K (.int x) (.int y)) (h3 : ¬ Canc ns → qf) :
    if decide ((1 : Int) < (ns.map PyData.int).length) = true then wD (atI (ns.map PyData.int) 0) (fun a => wD (atI (ns.map PyData.int) (-1)) fun b => K a b) else qf := by
  refine iteD (fun hlen => ?_) (fun hlen => ?_)
  · rw [List.length_map] at hlen
    cases ns with
    | nil => simp at hlen
    | cons x r =>
      refine wD_at (atI_zero x r) (wD_at (atI_back (x :: r) (by simp)) ?_)
      have hr : r ≠ [] := fun e => by rw [e] at hlen; simp at hlen
      have el : (x :: r).getLast (by simp) = r.getLast hr := by rw [List.getLast_cons hr]
      rw [el]
      have e3 := List.dropLast_concat_getLast hr
      by_cases c : x = -(r.getLast hr)
      · have := h1 x r.dropLast (by rw [show -x = r.getLast hr by omega, e3])
        rw [show r.getLast hr = -x by omega]; exact this
      · refine h2 _ _ (fun ⟨z, m, e⟩ => ?_) c
        have e4 : x = z := by injection e
        have e5 : r = m ++ [-z] := by injection e
        subst e5
        rw [List.getLast_append] at c
        simp at c
        exact c e4
  · exact h3 fun ⟨z, m, e⟩ => hlen (by rw [e]; simp; omega)
end
section
variable {En : EndsD}
theorem told1 : ring [2, 1, 1, -2] = [1, 1] := by
  have e1 : low [2, 1, 1, -2] = [2, 1, 1, -2] := by decide +kernel
  have e2 : core [2, 1, 1, -2] = [1, 1] := by
    have := core_step 2 [1, 1]
    rw [show (2 : Int) :: ([1, 1] ++ [-2]) = [2, 1, 1, -2] from rfl] at this
    rw [this]
    exact core_stop fun c => absurd (cancB_iff.mpr c) (by decide +kernel)
  unfold ring
  rw [e1, e2]; decide +kernel
theorem told2 : ring [1, -2, -1, 2] = [-2, -1, 2, 1] := by
  have e1 : low [1, -2, -1, 2] = [1, -2, -1, 2] := by decide +kernel
  have e2 : core [1, -2, -1, 2] = [1, -2, -1, 2] := core_stop fun c => absurd (cancB_iff.mpr c) (by decide +kernel)
  unfold ring
  rw [e1, e2]; decide +kernel
end
section
variable {En : EndsD}
variable {c0 c2 c3 c4 c5 c6 c7 c8 c9 c10 c11 c12 c13 c14 c15 c16 c17 : Sl}
def toldD : D := .list [tupD [1, 1], .str "along", tupD [-2, -1, 2, 1]]
end
end K08
end CV

/-! RZ: rings without letters that undo their neighbours: digits above 0; rows of digits that agree far enough; sums of digits. -/
namespace RZ
open FG RY
theorem cyc_next {A : List Int} (h : Red A) (hc : ¬ Canc A) (hz : ∀ x ∈ A, x ≠ 0) (hA : A ≠ []) (a k : Nat) : fw A a (k + 1) ≠ -(fw A a k) := fun e => by
  have l := List.length_pos_iff.mpr hA
  have hi : (a + k) % A.length < A.length := Nat.mod_lt _ l
  have hj : (a + (k + 1)) % A.length < A.length := Nat.mod_lt _ l
  unfold fw at e
  rw [List.getD_eq_getElem?_getD, List.getD_eq_getElem?_getD, List.getElem?_eq_getElem hi, List.getElem?_eq_getElem hj] at e
  have e : A[(a + (k + 1)) % A.length] = -A[(a + k) % A.length] := e
  have hm : (a + (k + 1)) % A.length = if (a + k) % A.length + 1 < A.length then (a + k) % A.length + 1 else 0 := by
    rw [← Nat.add_assoc, Nat.add_mod]
    by_cases h1 : A.length = 1
    · rw [h1]; simp [Nat.mod_one]
    · rw [Nat.mod_eq_of_lt (by omega : 1 < A.length)]
      split
      · exact Nat.mod_eq_of_lt (by assumption)
      · rw [show (a + k) % A.length + 1 = A.length by omega, Nat.mod_self]
  generalize (a + k) % A.length = i at *
  split at hm
  · rename_i h1
    refine h (A.take i) A[i] (A.drop (i + 2)) ?_
    have e2 : A[(a + (k + 1)) % A.length] = A[i + 1] := by congr 1
    rw [← e, e2, ← List.drop_eq_getElem_cons h1, ← List.drop_eq_getElem_cons hi, List.take_append_drop]
  · rename_i h1
    have e2 : A[(a + (k + 1)) % A.length] = A[0] := by congr 1
    have e3 : A.length - 1 = i := by omega
    by_cases h2 : A.length = 1
    · have : i = 0 := by omega
      subst this
      rw [e2] at e
      exact hz _ (List.getElem_mem l) (by omega)
    · refine hc (cancB_iff.mp ?_)
      unfold cancB
      rw [Bool.and_eq_true, decide_eq_true_eq, decide_eq_true_eq]
      refine ⟨by omega, ?_⟩
      rw [List.head?_eq_getElem?, List.getLast?_eq_getElem?, List.getElem?_eq_getElem l, List.getElem?_eq_getElem (by omega : A.length - 1 < A.length)]
      show some _ = some _
      rw [← e2, e]
      congr 2
      simp only [e3]
theorem st_self (P : List Int) (a : Int) : st P a a = 0 := by unfold st; rw [Int.sub_self]; rfl
theorem dig_pos {P A : List Int} (hP : P ≠ []) (hm : ∀ x ∈ A, x ∈ P ∧ -x ∈ P) (h : Red A) (hc : ¬ Canc A) (hz : ∀ x ∈ A, x ≠ 0) (hA : A ≠ []) (a k : Nat) : 1 ≤ dig P (fw A a) k := by
  have h1 := (dig_ok hP (fw A a) k).1
  have h2 : dig P (fw A a) k ≠ 0 := by
    unfold dig
    rw [← st_self P (-(fw A a k))]
    exact st_ne (hm _ (fw_mem hA a (k + 1))).1 (hm _ (fw_mem hA a k)).2 (cyc_next h hc hz hA a k)
  omega
/-- rows with two rounds that agree so far agree -/
theorem agree {x y : Nat → Int} {p q : Nat} (hp : 1 ≤ p) (hq : 1 ≤ q) (px : Per x p) (py : Per y q) (e : ∀ j, j < p + q → x j = y j) : ∀ j, x j = y j := fun j => by
  induction j using Nat.strongRecOn with
  | ind j ih =>
    by_cases c : j < p + q
    · exact e j c
    · obtain ⟨m, rfl⟩ : ∃ m, j = p + q + m := ⟨j - (p + q), by omega⟩
      have a1 : x (p + q + m) = x (q + m) := by rw [Nat.add_assoc]; exact px _
      have a2 : y (p + q + m) = y (p + m) := by rw [show p + q + m = q + (p + m) by omega]; exact py _
      have a3 : x (q + m) = y (q + m) := ih _ (by omega)
      have a4 : x (p + m) = y (p + m) := ih _ (by omega)
      have a5 : y (q + m) = y m := py _
      have a6 : x (p + m) = x m := px _
      have a7 : x m = y m := ih _ (by omega)
      omega
theorem two_per {R : List Int} (hR : R ≠ []) (P : List Int) (a : Nat) : Per (dig P (fw (R ++ R) a)) R.length := fun k => by
  have : dig P (fw (R ++ R) a) = dig P (fw R a) := by
    funext j
    unfold dig
    rw [fw_two hR, fw_two hR]
  rw [this]
  exact dig_per P R a k
/-- three rounds' sum and its rest -/
theorem rest_eq {b : Int} {x : Nat → Int} {p : Nat} (px : Per x p) (t : Nat) : V b x p * b ^ (p * t) - (b ^ p - 1) * V b x (p * t) = V b x p := by
  have := V_per (b := b) px t
  generalize V b x (p * t) = u at *
  generalize b ^ (p * t) = w at *
  grind
theorem V_ge1 {b : Int} {x : Nat → Int} (hb : 1 ≤ b) (h : ∀ k, 1 ≤ x k ∧ x k < b) {n : Nat} (hn : 1 ≤ n) : 1 ≤ V b x n := by
  obtain ⟨m, rfl⟩ : ∃ m, n = m + 1 := ⟨n - 1, by omega⟩
  have h1 := V_nn (x := x) hb (fun k => ⟨by have := (h k).1; omega, (h k).2⟩) m
  have h2 := Int.mul_nonneg h1 (by omega : (0 : Int) ≤ b)
  have := (h m).1
  show 1 ≤ V b x m * b + x m
  omega
/-- a number of a ray, and enough of its digits -/
structure Ent (b : Int) (top bot : Int) (n : Nat) (x : Nat → Int) : Prop where
  ex : ∃ p l : Nat, 1 ≤ p ∧ p ≤ 12 ∧ 1 ≤ l ∧ l ≤ 6 ∧ Per x p ∧ Per x l ∧ top = V b x p ∧ bot = b ^ p - 1 ∧ 9 * l ≤ n ∧ n ≤ 108
  dg : ∀ k, 0 ≤ x k ∧ x k < b
theorem ent_lt {b t u t' u' : Int} {n m k : Nat} {x y : Nat → Int} (hb : 2 ≤ b) (h : Ent b t u n x) (g : Ent b t' u' m y) (e : ∀ j, j < k → x j = y j) (hk : x k < y k) : t * u' - t' * u < 0 := by
  obtain ⟨p, l, h1, h2, h3, h4, h5, h6, rfl, rfl, h7, h8⟩ := h.ex
  obtain ⟨p', l', g1, g2, g3, g4, g5, g6, rfl, rfl, g7, g8⟩ := g.ex
  have := cross_lt hb h1 g1 h.dg g.dg h5 g5 e hk
  omega
theorem ent_eq {b t u t' u' : Int} {n m : Nat} {x y : Nat → Int} (h : Ent b t u n x) (g : Ent b t' u' m y) (e : ∀ j, j < n → j < m → x j = y j) : t * u' - t' * u = 0 := by
  obtain ⟨p, l, h1, h2, h3, h4, h5, h6, rfl, rfl, h7, h8⟩ := h.ex
  obtain ⟨p', l', g1, g2, g3, g4, g5, g6, rfl, rfl, g7, g8⟩ := g.ex
  have := cross_eq (b := b) h5 g5 fun j _ => agree h3 g3 h6 g6 (fun j hj => e j (by omega) (by omega)) j
  omega
end RZ
namespace DL
open PySem PySem.Spec PyProof.Rows L2
theorem ifF {b : Bool} {A C : Prop} (e : b = false) (h : C) : if b = true then A else C := by rw [e]; exact h
theorem ifT {b : Bool} {A C : Prop} (e : b = true) (h : A) : if b = true then A else C := by rw [e]; exact h
theorem neF {a b : List Int} (e : a = b) : (!PyData.eqv (.list (a.map PyData.int)) (.list (b.map PyData.int))) = false := by rw [eqv_lst, decide_eq_true e]; rfl
theorem neTF {a b : List Int} (e : a = b) : (!PyData.eqv (tupD a) (tupD b)) = false := by rw [eqv_tupD, decide_eq_true e]; rfl
theorem nDecF {P : Prop} [Decidable P] (e : P) : (!decide P) = false := by rw [decide_eq_true e]; rfl
end DL

namespace K13
open PySem PySem.Spec PyProof.Rows L2 DL
def topS (i : Nat) : Stmt := PySem.Challenge.pw_loopsonplates_k13_rays_numbers_by_long_s.main.body.getD i (.Pass ⟨0, 0, 0, 0⟩)
section
variable {P : Program} {w : World} {K : PySem.W.Frag} {mg : Str → Option Value} {base : Heap}
abbrev s_end_places : Stmt := topS 1
def W_end_places : FT := fnW 1 3 (sRet (eB wDictP (aCons (eLc (iEnu (eV 0)) (.tup [(.nm 1), (.nm 2)]) tYesD (eTup (aCons (eV 2) (aCons (eV 1) aNil))) [1, 2]) aNil)))
theorem sc_end_places : FnScope ["plate", "place", "end"] ["plate"] (defScope s_end_places) := ⟨rfl, rfl, rfl, by decide +kernel, rfl, by decide +kernel, by decide +kernel⟩
theorem ok_end_places (M : Modl K mg) (D_end_places : DefAt K "end_places" s_end_places) (z_dict : mg "dict" = none) (z_enumerate : mg "enumerate" = none) : Cal P w K mg base 1 "end_places" ["plate"] W_end_places :=
  cal_of (k := 0) M D_end_places sc_end_places (fun _ _ _ _ _ _ us hl => match us, hl with | [_], _ => rfl) ⟨rfl, by decide, by decide⟩ fun f cdv A outer s H E B hK hr hgd =>
  (dss_one (ds_ret (d_dictP hK rfl (by rfl) z_dict (da_cons (d_lc (own := [("place", 1), ("end", 2)]) (p := (.tup [(.nm 1), (.nm 2)])) hK rfl sc_end_places.nd (di_enum hK (by rfl) z_enumerate (d_var 0)) (blkOk_by (N := ["plate", "place", "end"]) (sc := defScope s_end_places) (by decide +kernel)) (by decide) (fun _ _ _ _ _ => (pg_tl rfl (pgs_cons (pg_name (i := 1) sc_end_places.nd rfl (Or.inl rfl)) (pgs_cons (pg_name (i := 2) sc_end_places.nd rfl (Or.inl rfl)) pgs_nil)))) (fun _ _ _ _ _ _ => dts_nil) (fun _ _ _ _ _ _ => (d_tup (da_cons (d_var 2) (da_cons (d_var 1) da_nil))))) da_nil))))
abbrev s_word_undone : Stmt := topS 3
def W_word_undone : FT := fnW 1 2 (sRet (eB wTupOf (aCons (eLc (iAny (e1 wRev (eV 0))) (.nm 1) tYesD (e1 wNeg (eV 1)) [1]) aNil)))
theorem sc_word_undone : FnScope ["word", "letter"] ["word"] (defScope s_word_undone) := ⟨rfl, rfl, rfl, by decide +kernel, rfl, by decide +kernel, by decide +kernel⟩
theorem ok_word_undone (M : Modl K mg) (D_word_undone : DefAt K "word_undone" s_word_undone) (z_tuple : mg "tuple" = none) : Cal P w K mg base 1 "word_undone" ["word"] W_word_undone :=
  cal_of (k := 0) M D_word_undone sc_word_undone (fun _ _ _ _ _ _ us hl => match us, hl with | [_], _ => rfl) ⟨rfl, by decide, by decide⟩ fun f cdv A outer s H E B hK hr hgd =>
  (dss_one (ds_ret (d_tupOf hK (by rfl) z_tuple (da_cons (d_lc (own := [("letter", 1)]) (p := (.nm 1)) hK rfl sc_word_undone.nd (di_seq hK (d_rev hK (d_var 0))) (blkOk_by (N := ["word", "letter"]) (sc := defScope s_word_undone) (by decide +kernel)) (by decide) (fun _ _ _ _ _ => (pg_name (i := 1) sc_word_undone.nd rfl (Or.inl rfl))) (fun _ _ _ _ _ _ => dts_nil) (fun _ _ _ _ _ _ => (d_neg (d_var 1)))) da_nil))))
abbrev s_ray_digits : Stmt := topS 5
def B_ray_digits_0 : STy := (sSeq (sSet 9 (e2 wIx (eV 5) (e2 wMod (e2 wAdd (eV 7) (eK (.int 1))) (eB wLen (aCons (eV 5) aNil))))) (sDrop (eM 6 wAppend (aCons (e2 wMod (e2 wSub (eDGet (eV 3) (eV 9)) (eDGet (eV 3) (e1 wNeg (eV 8)))) (eV 4)) aNil))))
def S_ray_digits_0 : STy := (sPar 3 4 (eCall W_end_places (aCons (eV 0) aNil)) (eB wLen (aCons (eV 0) aNil)))
def S_ray_digits_1 : STy := (sSet 5 (e2 wAdd (eSl (eV 1) (oSome (eV 2)) oNone) (eSl (eV 1) oNone (oSome (eV 2)))))
def S_ray_digits_2 : STy := (sOwn 6 (oLst aNil))
def S_ray_digits_3 : STy := (sFor (iEnu (eV 5)) (.tup [(.nm 7), (.nm 8)]) B_ray_digits_0)
def S_ray_digits_4 : STy := (sRet (eV 6))
def W_ray_digits : FT := fnW 3 10 (sSeq S_ray_digits_0 (sSeq S_ray_digits_1 (sSeq S_ray_digits_2 (sSeq S_ray_digits_3 S_ray_digits_4))))
theorem sc_ray_digits : FnScope ["plate", "ring", "at", "places", "many", "line", "found", "k", "letter", "behind"] ["plate", "ring", "at"] (defScope s_ray_digits) := ⟨rfl, rfl, rfl, by decide +kernel, rfl, by decide +kernel, by decide +kernel⟩
theorem ok_ray_digits (M : Modl K mg) (D_ray_digits : DefAt K "ray_digits" s_ray_digits) (z_enumerate : mg "enumerate" = none) (z_len : mg "len" = none) (C_end_places : Cal P w K mg base 1 "end_places" ["plate"] W_end_places) : Cal P w K mg base 2 "ray_digits" ["plate", "ring", "at"] W_ray_digits :=
  cal_of (k := 1) M D_ray_digits sc_ray_digits (fun _ _ _ _ _ _ us hl => match us, hl with | [_, _, _], _ => rfl) ⟨rfl, by decide, by decide⟩ fun f cdv A outer s H E B hK hr hgd =>
  (dss_cons (ds_par (i := 3) (j := 4) rfl sc_ray_digits.nd rfl rfl (by decide) rfl rfl (d_cal hK (C_end_places) hr hgd (da_cons (d_var 0) da_nil)) (d_len hK (by rfl) z_len (da_cons (d_var 0) da_nil)) (by rfl)) (dss_cons (ds_set (i := 5) sc_ray_digits.nd rfl (Or.inl rfl) (d_add hK (d_slice hK (d_var 1) (dp_some (d_var 2)) dp_none) (d_slice hK (d_var 1) dp_none (dp_some (d_var 2))))) (dss_cons (ds_own (i := 6) sc_ray_digits.nd rfl (Or.inl rfl) (do_lst da_nil)) (dss_cons (ds_for (p := (.tup [(.nm 7), (.nm 8)])) hK PassesOwn.never rfl (di_enum hK (by rfl) z_enumerate (d_var 5)) (pg_tl rfl (pgs_cons (pg_name (i := 7) sc_ray_digits.nd rfl (Or.inl rfl)) (pgs_cons (pg_name (i := 8) sc_ray_digits.nd rfl (Or.inl rfl)) pgs_nil))) (dss_cons (ds_set (i := 9) sc_ray_digits.nd rfl (Or.inl rfl) (d_idx hK (d_var 5) (d_mod (d_add hK (d_var 7) d_int) (d_len hK (by rfl) z_len (da_cons (d_var 5) da_nil))))) (dss_one (ds_expr (d_append hK 6 (ha := (da_cons (d_mod (d_sub (d_dget hK (u1_lt (units_le' hr)) (d_var 3) (d_var 9)) (d_dget hK (u1_lt (units_le' hr)) (d_var 3) (d_neg (d_var 8)))) (d_var 4)) da_nil))))))) (dss_one (ds_ret (d_var 6)))))))
abbrev s_digits_number : Stmt := topS 6
def B_digits_number_0 : STy := (sPar 2 3 (e2 wAdd (e2 wMul (eV 2) (eV 0)) (eV 4)) (e2 wMul (eV 3) (eV 0)))
def W_digits_number : FT := fnW 2 5 (sSeq (sAsg (.tup [(.nm 2), (.nm 3)]) (eTup (aCons (eK (.int 0)) (aCons (eK (.int 1)) aNil)))) (sSeq (sFor (iAny (eV 1)) (.nm 4) B_digits_number_0) (sRet (eTup (aCons (eV 2) (aCons (e2 wSub (eV 3) (eK (.int 1))) aNil))))))
theorem sc_digits_number : FnScope ["base", "digits", "top", "bottom", "digit"] ["base", "digits"] (defScope s_digits_number) := ⟨rfl, rfl, rfl, by decide +kernel, rfl, by decide +kernel, by decide +kernel⟩
theorem ok_digits_number (M : Modl K mg) (D_digits_number : DefAt K "digits_number" s_digits_number) : Cal P w K mg base 1 "digits_number" ["base", "digits"] W_digits_number :=
  cal_of (k := 0) M D_digits_number sc_digits_number (fun _ _ _ _ _ _ us hl => match us, hl with | [_, _], _ => rfl) ⟨rfl, by decide, by decide⟩ fun f cdv A outer s H E B hK hr hgd =>
  (dss_cons (ds_asg (p := (.tup [(.nm 2), (.nm 3)])) hK (d_tup (da_cons d_int (da_cons d_int da_nil))) (pg_tl rfl (pgs_cons (pg_name (i := 2) sc_digits_number.nd rfl (Or.inl rfl)) (pgs_cons (pg_name (i := 3) sc_digits_number.nd rfl (Or.inl rfl)) pgs_nil)))) (dss_cons (ds_for (p := (.nm 4)) hK PassesOwn.never rfl (di_seq hK (d_var 1)) (pg_name (i := 4) sc_digits_number.nd rfl (Or.inl rfl)) (dss_one (ds_par (i := 2) (j := 3) rfl sc_digits_number.nd rfl rfl (by decide) rfl rfl (d_add hK (d_mul hK (d_var 2) (d_var 0)) (d_var 4)) (d_mul hK (d_var 3) (d_var 0)) (by rfl)))) (dss_one (ds_ret (d_tup (da_cons (d_var 2) (da_cons (d_sub (d_var 3) d_int) da_nil)))))))
abbrev s_ray_number : Stmt := topS 7
def W_ray_number : FT := fnW 3 3 (sRet (eCall W_digits_number (aCons (eB wLen (aCons (eV 0) aNil)) (aCons (eCall W_ray_digits (aCons (eV 0) (aCons (eV 1) (aCons (eV 2) aNil)))) aNil))))
theorem sc_ray_number : FnScope ["plate", "ring", "at"] ["plate", "ring", "at"] (defScope s_ray_number) := ⟨rfl, rfl, rfl, by decide +kernel, rfl, by decide +kernel, by decide +kernel⟩
theorem ok_ray_number (M : Modl K mg) (D_ray_number : DefAt K "ray_number" s_ray_number) (z_len : mg "len" = none) (C_digits_number : Cal P w K mg base 1 "digits_number" ["base", "digits"] W_digits_number) (C_ray_digits : Cal P w K mg base 2 "ray_digits" ["plate", "ring", "at"] W_ray_digits) : Cal P w K mg base 3 "ray_number" ["plate", "ring", "at"] W_ray_number :=
  cal_of (k := 2) M D_ray_number sc_ray_number (fun _ _ _ _ _ _ us hl => match us, hl with | [_, _, _], _ => rfl) ⟨rfl, by decide, by decide⟩ fun f cdv A outer s H E B hK hr hgd =>
  (dss_one (ds_ret (d_cal hK (C_digits_number) hr hgd (da_cons (d_len hK (by rfl) z_len (da_cons (d_var 0) da_nil)) (da_cons (d_cal hK (C_ray_digits) hr hgd (da_cons (d_var 0) (da_cons (d_var 1) (da_cons (d_var 2) da_nil)))) da_nil)))))
abbrev s_back_number : Stmt := topS 8
def W_back_number : FT := fnW 3 3 (sRet (eCall W_ray_number (aCons (eV 0) (aCons (eCall W_word_undone (aCons (eV 1) aNil)) (aCons (e2 wSub (e2 wSub (eB wLen (aCons (eV 1) aNil)) (eK (.int 1))) (eV 2)) aNil)))))
theorem sc_back_number : FnScope ["plate", "ring", "at"] ["plate", "ring", "at"] (defScope s_back_number) := ⟨rfl, rfl, rfl, by decide +kernel, rfl, by decide +kernel, by decide +kernel⟩
theorem ok_back_number (M : Modl K mg) (D_back_number : DefAt K "back_number" s_back_number) (z_len : mg "len" = none) (C_ray_number : Cal P w K mg base 3 "ray_number" ["plate", "ring", "at"] W_ray_number) (C_word_undone : Cal P w K mg base 1 "word_undone" ["word"] W_word_undone) : Cal P w K mg base 4 "back_number" ["plate", "ring", "at"] W_back_number :=
  cal_of (k := 3) M D_back_number sc_back_number (fun _ _ _ _ _ _ us hl => match us, hl with | [_, _, _], _ => rfl) ⟨rfl, by decide, by decide⟩ fun f cdv A outer s H E B hK hr hgd =>
  (dss_one (ds_ret (d_cal hK (C_ray_number) hr hgd (da_cons (d_var 0) (da_cons (d_cal hK (C_word_undone) hr hgd (da_cons (d_var 1) da_nil)) (da_cons (d_sub (d_sub (d_len hK (by rfl) z_len (da_cons (d_var 1) da_nil)) d_int) (d_var 2)) da_nil))))))
abbrev s_thread_numbers : Stmt := topS 9
def W_thread_numbers : FT := fnW 3 4 (sSeq (sSet 3 (eTup (aCons (eCall W_ray_number (aCons (eV 0) (aCons (eV 1) (aCons (eV 2) aNil)))) (aCons (eCall W_back_number (aCons (eV 0) (aCons (eV 1) (aCons (eV 2) aNil)))) aNil)))) (sRet (eIf (tB' (e2 wGt (e2 wIx (eV 1) (eV 2)) (eK (.int 0)))) (eV 3) (e1 wRev (eV 3)))))
theorem sc_thread_numbers : FnScope ["plate", "ring", "at", "found"] ["plate", "ring", "at"] (defScope s_thread_numbers) := ⟨rfl, rfl, rfl, by decide +kernel, rfl, by decide +kernel, by decide +kernel⟩
theorem ok_thread_numbers (M : Modl K mg) (D_thread_numbers : DefAt K "thread_numbers" s_thread_numbers) (C_back_number : Cal P w K mg base 4 "back_number" ["plate", "ring", "at"] W_back_number) (C_ray_number : Cal P w K mg base 3 "ray_number" ["plate", "ring", "at"] W_ray_number) : Cal P w K mg base 5 "thread_numbers" ["plate", "ring", "at"] W_thread_numbers :=
  cal_of (k := 4) M D_thread_numbers sc_thread_numbers (fun _ _ _ _ _ _ us hl => match us, hl with | [_, _, _], _ => rfl) ⟨rfl, by decide, by decide⟩ fun f cdv A outer s H E B hK hr hgd =>
  (dss_cons (ds_set (i := 3) sc_thread_numbers.nd rfl (Or.inl rfl) (d_tup (da_cons (d_cal hK (C_ray_number) hr hgd (da_cons (d_var 0) (da_cons (d_var 1) (da_cons (d_var 2) da_nil)))) (da_cons (d_cal hK (C_back_number) hr hgd (da_cons (d_var 0) (da_cons (d_var 1) (da_cons (d_var 2) da_nil)))) da_nil)))) (dss_one (ds_ret (d_if (dt_gt (d_idx hK (d_var 1) (d_var 2)) d_int) (d_var 3) (d_rev hK (d_var 3))))))
abbrev s_numbers_order : Stmt := topS 10
def W_numbers_order : FT := fnW 2 3 (sSeq (sSet 2 (e2 wSub (e2 wMul (e2 wIx (eV 0) (eK (.int 0))) (e2 wIx (eV 1) (eK (.int 1)))) (e2 wMul (e2 wIx (eV 1) (eK (.int 0))) (e2 wIx (eV 0) (eK (.int 1)))))) (sRet (e2 wSub (e2 wGt (eV 2) (eK (.int 0))) (e2 wLt (eV 2) (eK (.int 0))))))
theorem sc_numbers_order : FnScope ["one", "other", "less"] ["one", "other"] (defScope s_numbers_order) := ⟨rfl, rfl, rfl, by decide +kernel, rfl, by decide +kernel, by decide +kernel⟩
theorem ok_numbers_order (M : Modl K mg) (D_numbers_order : DefAt K "numbers_order" s_numbers_order) : Cal P w K mg base 1 "numbers_order" ["one", "other"] W_numbers_order :=
  cal_of (k := 0) M D_numbers_order sc_numbers_order (fun _ _ _ _ _ _ us hl => match us, hl with | [_, _], _ => rfl) ⟨rfl, by decide, by decide⟩ fun f cdv A outer s H E B hK hr hgd =>
  (dss_cons (ds_set (i := 2) sc_numbers_order.nd rfl (Or.inl rfl) (d_sub (d_mul hK (d_idx hK (d_var 0) d_int) (d_idx hK (d_var 1) d_int)) (d_mul hK (d_idx hK (d_var 1) d_int) (d_idx hK (d_var 0) d_int)))) (dss_one (ds_ret (d_sub (d_gt (d_var 2) d_int) (d_lt hK (units_lt hr) (d_var 2) d_int)))))
abbrev s_are_by_turns : Stmt := topS 11
def W_are_by_turns : FT := fnW 3 7 (sSeq (sSet 3 (eCall W_end_places (aCons (eV 0) aNil))) (sSeq (sAsg (.tup [(.nm 4), (.nm 5)]) (eB wSortI (aCons (eLc (iAny (eV 1)) (.nm 6) tYesD (eDGet (eV 3) (eV 6)) [6]) aNil))) (sRet (e2 wEq (eB wLen (aCons (eLc (iAny (eV 2)) (.nm 6) (tB' (eCh wLt wLt (eV 4) (eDGet (eV 3) (eV 6)) (eV 5))) (eV 6) [6]) aNil)) (eK (.int 1))))))
theorem sc_are_by_turns : FnScope ["plate", "pair", "late", "places", "low", "high", "end"] ["plate", "pair", "late"] (defScope s_are_by_turns) := ⟨rfl, rfl, rfl, by decide +kernel, rfl, by decide +kernel, by decide +kernel⟩
theorem ok_are_by_turns (M : Modl K mg) (D_are_by_turns : DefAt K "are_by_turns" s_are_by_turns) (z_len : mg "len" = none) (z_sorted : mg "sorted" = none) (C_end_places : Cal P w K mg base 1 "end_places" ["plate"] W_end_places) : Cal P w K mg base 2 "are_by_turns" ["plate", "pair", "late"] W_are_by_turns :=
  cal_of (k := 1) M D_are_by_turns sc_are_by_turns (fun _ _ _ _ _ _ us hl => match us, hl with | [_, _, _], _ => rfl) ⟨rfl, by decide, by decide⟩ fun f cdv A outer s H E B hK hr hgd =>
  (dss_cons (ds_set (i := 3) sc_are_by_turns.nd rfl (Or.inr rfl) (d_cal hK (C_end_places) hr hgd (da_cons (d_var 0) da_nil))) (dss_cons (ds_asg (p := (.tup [(.nm 4), (.nm 5)])) hK (d_sorted hK (by rfl) z_sorted (da_cons (d_lc (own := [("end", 6)]) (p := (.nm 6)) hK rfl sc_are_by_turns.nd (di_seq hK (d_var 1)) (blkOk_by (N := ["plate", "pair", "late", "places", "low", "high", "end"]) (sc := defScope s_are_by_turns) (by decide +kernel)) (by decide) (fun _ _ _ _ _ => (pg_name (i := 6) sc_are_by_turns.nd rfl (Or.inl rfl))) (fun _ _ _ _ _ _ => dts_nil) (fun _ _ _ _ _ _ => (d_dget hK (u1_lt (units_le' hr)) (d_var 3) (d_var 6)))) da_nil)) (pg_tl rfl (pgs_cons (pg_name (i := 4) sc_are_by_turns.nd rfl (Or.inr rfl)) (pgs_cons (pg_name (i := 5) sc_are_by_turns.nd rfl (Or.inr rfl)) pgs_nil)))) (dss_one (ds_ret (d_eq hK (units_le' hr) (d_len hK (by rfl) z_len (da_cons (d_lc (own := [("end", 6)]) (p := (.nm 6)) hK rfl sc_are_by_turns.nd (di_seq hK (d_var 2)) (blkOk_by (N := ["plate", "pair", "late", "places", "low", "high", "end"]) (sc := defScope s_are_by_turns) (by decide +kernel)) (by decide) (fun _ _ _ _ _ => (pg_name (i := 6) sc_are_by_turns.nd rfl (Or.inl rfl))) (fun _ _ _ _ _ _ => (dts_one (d_tchainK (k_lt hK (units_lt hr)) (k_lt hK (units_lt hr)) (d_var 4) (d_dget hK (u1_lt (units_le' hr)) (d_var 3) (d_var 6)) (d_var 5)))) (fun _ _ _ _ _ _ => (d_var 6))) da_nil)) d_int)))))
abbrev s__law_source : Stmt := topS 13
abbrev W__law_source : FT := wSource
theorem sc__law_source : FnScope ["script", "mixed", "cell"] ["script"] (defScope s__law_source) := ⟨rfl, rfl, rfl, by decide +kernel, rfl, by decide +kernel, by decide +kernel⟩
theorem ok__law_source (M : Modl K mg) (D__law_source : DefAt K "_law_source" s__law_source) (z_abs : mg "abs" = none) (z_int : mg "int" = none) : Cal P w K mg base 1 "_law_source" ["script"] W__law_source :=
  Cal.weak (G := W_src) (cal_of (k := 0) M D__law_source sc__law_source (fun _ _ _ _ _ _ us hl => match us, hl with | [_], _ => rfl) ⟨rfl, by decide, by decide⟩ fun f cdv A outer s H E B hK hr hgd =>
    (dss_cons (ds_set (i := 1) sc__law_source.nd rfl (Or.inl rfl) d_int) (dss_cons (ds_for (p := (.nm 2)) hK PassesOwn.never rfl (di_seq hK (d_var 0)) (pg_name (i := 2) sc__law_source.nd rfl (Or.inl rfl)) (dss_one (ds_set (i := 1) sc__law_source.nd rfl (Or.inl rfl) (d_mod (d_int1 (by rfl) z_int (da_cons (d_add hK (d_add hK (d_mul hK (d_var 1) d_int) (d_mul hK (d_var 2) d_int)) d_int) da_nil)) d_int))))
      (dss_one (ds_retSrc hK (fun _ => (d_lc (own := [("cell", 2)]) (p := (.nm 2)) hK rfl sc__law_source.nd (di_seq hK (d_var 0)) (blkOk_by (N := ["script", "mixed", "cell"]) (sc := defScope s__law_source) (by decide +kernel)) (by decide) (fun _ _ _ _ _ => (pg_name (i := 2) sc__law_source.nd rfl (Or.inl rfl))) (fun _ _ _ _ _ _ => dts_nil) (fun _ _ _ _ _ _ => (d_abs (by rfl) z_abs (da_cons (d_var 2) da_nil))))) (fun _ => (d_var 1)))))))
    wSource_mo fun _ _ h => W_src_ok h
abbrev s__law_pick : Stmt := topS 14
abbrev W__law_pick : FT := wPick
theorem sc__law_pick : FnScope ["source", "many", "left", "mixed"] ["source", "many"] (defScope s__law_pick) := ⟨rfl, rfl, rfl, by decide +kernel, rfl, by decide +kernel, by decide +kernel⟩
theorem dgp {X : Cx} {x : Str} {pos p1 p2 : Pos} {j : Nat} (hu : X.A.units + 1 < cLine) (hN : X.N[0]? = some ("source" : Str)) (hv : Vis X.env.scope ("source" : Str)) : PE X (.Subscript (.Name "source" p1) (.Constant (.str x) j p2) pos) (sG x) := pe_dget hu (pe_var hN hv) pe_str (fun _ _ => rfl)
theorem ok__law_pick (M : Modl K mg) (D__law_pick : DefAt K "_law_pick" s__law_pick) (z_int : mg "int" = none) (z_len : mg "len" = none) (z_max : mg "max" = none) : Cal P w K mg base 1 "_law_pick" ["source", "many"] W__law_pick :=
  cal_pick (k := 0) M D__law_pick sc__law_pick (fun _ _ _ _ _ _ us hl => match us, hl with | [_, _], _ => rfl) fun f cdv A outer s H E hu =>
    pss_cons (ps_while PassesOwn.never (pw_and (pt_cmpR op_gt (pv 1) pe_int (nomark _)) (pw_and (pt_cmpR op_lt (dgp hu rfl (Or.inl rfl)) pe_int (nomark _)) (pw_and1 (pt_cmpR op_gt (pe_callB call_len (by rfl) z_len PySem.boot_len (pa_cons (dgp hu rfl (Or.inl rfl)) pa_nil)) pe_int (nomark _))))).pt
        (pss_one (ps_asg (pe_bm0 PySem.F.plainAttrs_list PySem.F.slot_list_pop PySem.F.type_list_pop mt_pop (dgp hu rfl (Or.inl rfl))) (pg_sub (pv 0) pe_str (set_dict hu)))))
    (pss_cons (ps_set (i := 2) sc__law_pick.nd rfl (.inl rfl) (dgp hu rfl (Or.inl rfl)))
    (pss_cons (ps_if (pw_or (pt_cmpR op_lt (pv 1) pe_int (nomark _)) (pw_or1 (pt_cmpR op_gt (pv 2) pe_int (nomark _)))).pt
        (pss_cons (ps_asg (pe_op op_fdiv (pv 2) (pe_callB (call_max2 rfl) (by rfl) z_max (by decide +kernel) (pa_cons pe_int (pa_cons (pv 1) pa_nil)))) (pg_sub (pv 0) pe_str (set_dict hu)))
          (pss_one (ps_ret (pe_op op_mod (pe_callTy call_int1 (by rfl) z_int (by decide +kernel) (pa_cons (pv 2) pa_nil)) (pe_callB (call_max2 rfl) (by rfl) z_max (by decide +kernel) (pa_cons pe_int (pa_cons (pv 1) pa_nil)))))))
        pss_nil)
    (pss_cons (ps_asg (pe_op op_add (dgp hu rfl (Or.inl rfl)) pe_int) (pg_sub (pv 0) pe_str (set_dict hu)))
    (pss_cons (ps_set (i := 3) sc__law_pick.nd rfl (.inl rfl) (pe_op op_mod (pe_callTy call_int1 (by rfl) z_int (by decide +kernel) (pa_cons (pe_op op_add (dgp hu rfl (Or.inl rfl)) (pe_op op_mul (dgp hu rfl (Or.inl rfl)) pe_int)) pa_nil)) pe_int))
    (pss_cons (ps_set (i := 3) sc__law_pick.nd rfl (.inl rfl) (pe_op op_mod (pe_callTy call_int1 (by rfl) z_int (by decide +kernel) (pa_cons (pe_op op_add (pe_op op_mul (pv 3) (pv 3)) (pe_op op_mul (dgp hu rfl (Or.inl rfl)) pe_int)) pa_nil)) pe_int))
    (pss_cons (ps_asg (pv 3) (pg_sub (pv 0) pe_str (set_dict hu)))
    (pss_one (ps_ret (pe_op op_mod (pe_callTy call_int1 (by rfl) z_int (by decide +kernel) (pa_cons (pe_op op_fdiv (pv 3) pe_int) pa_nil)) (pv 1))))))))))
abbrev s__law_of : Stmt := topS 15
def W__law_of : FT := fnW 2 2 (sRet (e2 wIx (eV 1) (eCall W__law_pick (aCons (eV 0) (aCons (eB wLen (aCons (eV 1) aNil)) aNil)))))
theorem sc__law_of : FnScope ["source", "some"] ["source", "some"] (defScope s__law_of) := ⟨rfl, rfl, rfl, by decide +kernel, rfl, by decide +kernel, by decide +kernel⟩
theorem ok__law_of (M : Modl K mg) (D__law_of : DefAt K "_law_of" s__law_of) (z_len : mg "len" = none) (C__law_pick : Cal P w K mg base 1 "_law_pick" ["source", "many"] W__law_pick) : Cal P w K mg base 2 "_law_of" ["source", "some"] W__law_of :=
  cal_of (k := 1) M D__law_of sc__law_of (fun _ _ _ _ _ _ us hl => match us, hl with | [_, _], _ => rfl) ⟨rfl, by decide, by decide⟩ fun f cdv A outer s H E B hK hr hgd =>
  (dss_one (ds_ret (d_idx hK (d_var 1) (d_cal hK (C__law_pick) hr hgd (da_cons (d_var 0) (da_cons (d_len hK (by rfl) z_len (da_cons (d_var 1) da_nil)) da_nil))))))
abbrev s__law_mixed : Stmt := topS 16
def W__law_mixed : FT := fnW 2 4 (sSeq (sOwn 2 (oLstOf (eV 1))) (sRet (eLc (iRg1 (eB wLen (aCons (eV 2) aNil))) (.nm 3) tYesD (eM 2 wPopAt (aCons (eCall W__law_pick (aCons (eV 0) (aCons (eB wLen (aCons (eV 2) aNil)) aNil))) aNil)) [3])))
theorem sc__law_mixed : FnScope ["source", "things", "rest", "lap"] ["source", "things"] (defScope s__law_mixed) := ⟨rfl, rfl, rfl, by decide +kernel, rfl, by decide +kernel, by decide +kernel⟩
theorem ok__law_mixed (M : Modl K mg) (D__law_mixed : DefAt K "_law_mixed" s__law_mixed) (z_len : mg "len" = none) (z_list : mg "list" = none) (z_range : mg "range" = none) (C__law_pick : Cal P w K mg base 1 "_law_pick" ["source", "many"] W__law_pick) : Cal P w K mg base 2 "_law_mixed" ["source", "things"] W__law_mixed :=
  cal_of (k := 1) M D__law_mixed sc__law_mixed (fun _ _ _ _ _ _ us hl => match us, hl with | [_, _], _ => rfl) ⟨rfl, by decide, by decide⟩ fun f cdv A outer s H E B hK hr hgd =>
  (dss_cons (ds_own (i := 2) sc__law_mixed.nd rfl (Or.inr rfl) (do_lstOf hK (by rfl) z_list (d_var 1))) (dss_one (ds_ret (d_lc (own := [("lap", 3)]) (p := (.nm 3)) hK rfl sc__law_mixed.nd (di_rg1 (by rfl) z_range (d_len hK (by rfl) z_len (da_cons (d_var 2) da_nil))) (blkOk_by (N := ["source", "things", "rest", "lap"]) (sc := defScope s__law_mixed) (by decide +kernel)) (by decide) (fun _ _ _ _ _ => (pg_name (i := 3) sc__law_mixed.nd rfl (Or.inl rfl))) (fun _ _ _ _ _ _ => dts_nil) (fun _ _ _ _ _ _ => (d_popAt hK 2 (ha := (da_cons (d_cal hK (C__law_pick) hr hgd (da_cons (d_var 0) (da_cons (d_len hK (by rfl) z_len (da_cons (d_var 2) da_nil)) da_nil))) da_nil))))))))
abbrev s__law_plate : Stmt := topS 17
def W__law_plate : FT := fnW 2 3 (sRet (eB wTupOf (aCons (eCall W__law_mixed (aCons (eV 0) (aCons (eLc (iRg2 (e2 wSub (eK (.int 0)) (eV 1)) (e2 wAdd (eV 1) (eK (.int 1)))) (.nm 2) (tB' (e2 wNe (eV 2) (eK (.int 0)))) (eV 2) [2]) aNil))) aNil)))
theorem sc__law_plate : FnScope ["source", "bands", "k"] ["source", "bands"] (defScope s__law_plate) := ⟨rfl, rfl, rfl, by decide +kernel, rfl, by decide +kernel, by decide +kernel⟩
theorem ok__law_plate (M : Modl K mg) (D__law_plate : DefAt K "_law_plate" s__law_plate) (z_range : mg "range" = none) (z_tuple : mg "tuple" = none) (C__law_mixed : Cal P w K mg base 2 "_law_mixed" ["source", "things"] W__law_mixed) : Cal P w K mg base 3 "_law_plate" ["source", "bands"] W__law_plate :=
  cal_of (k := 2) M D__law_plate sc__law_plate (fun _ _ _ _ _ _ us hl => match us, hl with | [_, _], _ => rfl) ⟨rfl, by decide, by decide⟩ fun f cdv A outer s H E B hK hr hgd =>
  (dss_one (ds_ret (d_tupOf hK (by rfl) z_tuple (da_cons (d_cal hK (C__law_mixed) hr hgd (da_cons (d_var 0) (da_cons (d_lc (own := [("k", 2)]) (p := (.nm 2)) hK rfl sc__law_plate.nd (di_rg2 (by rfl) z_range (d_sub d_int (d_var 1)) (d_add hK (d_var 1) d_int)) (blkOk_by (N := ["source", "bands", "k"]) (sc := defScope s__law_plate) (by decide +kernel)) (by decide) (fun _ _ _ _ _ => (pg_name (i := 2) sc__law_plate.nd rfl (Or.inl rfl))) (fun _ _ _ _ _ _ => (dts_one (dt_ne hK (units_le' hr) (d_var 2) d_int))) (fun _ _ _ _ _ _ => (d_var 2))) da_nil))) da_nil))))
abbrev s__law_low : Stmt := topS 18
def B__law_low_0 : STy := (sIf (tB' (e2 wEq (eSl (eV 1) (oSome (e1 wNeg (eK (.int 1)))) oNone) (eLst (aCons (e2 wSub (eK (.int 0)) (eV 2)) aNil)))) (sDrop (eM0 1 wPop)) (sDrop (eM 1 wAppend (aCons (eV 2) aNil))))
def W__law_low : FT := fnW 1 3 (sSeq (sOwn 1 (oLst aNil)) (sSeq (sFor (iAny (eV 0)) (.nm 2) B__law_low_0) (sRet (eB wTupOf (aCons (eV 1) aNil)))))
theorem sc__law_low : FnScope ["letters", "found", "letter"] ["letters"] (defScope s__law_low) := ⟨rfl, rfl, rfl, by decide +kernel, rfl, by decide +kernel, by decide +kernel⟩
theorem ok__law_low (M : Modl K mg) (D__law_low : DefAt K "_law_low" s__law_low) (z_tuple : mg "tuple" = none) : Cal P w K mg base 1 "_law_low" ["letters"] W__law_low :=
  cal_of (k := 0) M D__law_low sc__law_low (fun _ _ _ _ _ _ us hl => match us, hl with | [_], _ => rfl) ⟨rfl, by decide, by decide⟩ fun f cdv A outer s H E B hK hr hgd =>
  (dss_cons (ds_own (i := 1) sc__law_low.nd rfl (Or.inl rfl) (do_lst da_nil)) (dss_cons (ds_for (p := (.nm 2)) hK PassesOwn.never rfl (di_seq hK (d_var 0)) (pg_name (i := 2) sc__law_low.nd rfl (Or.inl rfl)) (dss_one (ds_if (dt_eq hK (units_le' hr) (d_slice hK (d_var 1) (dp_some (d_neg d_int)) dp_none) (d_lst (da_cons (d_sub d_int (d_var 2)) da_nil))) (dss_one (ds_expr (d_pop hK 1))) (dss_one (ds_expr (d_append hK 1 (ha := (da_cons (d_var 2) da_nil)))))))) (dss_one (ds_ret (d_tupOf hK (by rfl) z_tuple (da_cons (d_var 1) da_nil))))))
abbrev s__law_ring : Stmt := topS 19
def B__law_ring_0 : ETT := (tAnd' (tB' (e2 wGt (eB wLen (aCons (eV 1) aNil)) (eK (.int 1)))) (tB' (e2 wEq (e2 wIx (eV 1) (eK (.int 0))) (e2 wSub (eK (.int 0)) (e2 wIx (eV 1) (e1 wNeg (eK (.int 1))))))))
def B__law_ring_1 : STy := (sSet 1 (eSl (eV 1) (oSome (eK (.int 1))) (oSome (e1 wNeg (eK (.int 1))))))
def W__law_ring : FT := fnW 1 3 (sSeq (sSet 1 (eCall W__law_low (aCons (eV 0) aNil))) (sSeq (sWhile B__law_ring_0 B__law_ring_1) (sRet (eIf (tB' (e2 wNe (eV 1) (eTup aNil))) (eB wMin1 (aCons (eLc (iRg1 (eB wLen (aCons (eV 1) aNil))) (.nm 2) tYesD (e2 wAdd (eSl (eV 1) (oSome (eV 2)) oNone) (eSl (eV 1) oNone (oSome (eV 2)))) [2]) aNil)) (eTup aNil)))))
theorem sc__law_ring : FnScope ["letters", "word", "k"] ["letters"] (defScope s__law_ring) := ⟨rfl, rfl, rfl, by decide +kernel, rfl, by decide +kernel, by decide +kernel⟩
theorem ok__law_ring (M : Modl K mg) (D__law_ring : DefAt K "_law_ring" s__law_ring) (z_len : mg "len" = none) (z_min : mg "min" = none) (z_range : mg "range" = none) (C__law_low : Cal P w K mg base 1 "_law_low" ["letters"] W__law_low) : Cal P w K mg base 2 "_law_ring" ["letters"] W__law_ring :=
  cal_of (k := 1) M D__law_ring sc__law_ring (fun _ _ _ _ _ _ us hl => match us, hl with | [_], _ => rfl) ⟨rfl, by decide, by decide⟩ fun f cdv A outer s H E B hK hr hgd =>
  (dss_cons (ds_set (i := 1) sc__law_ring.nd rfl (Or.inr rfl) (d_cal hK (C__law_low) hr hgd (da_cons (d_var 0) da_nil))) (dss_cons (ds_while PassesOwn.never (dw_pt (dw_and (dt_gt (d_len hK (by rfl) z_len (da_cons (d_var 1) da_nil)) d_int) (dw_and1 (dt_eq hK (units_le' hr) (d_idx hK (d_var 1) d_int) (d_sub d_int (d_idx hK (d_var 1) (d_neg d_int))))))) (dss_one (ds_set (i := 1) sc__law_ring.nd rfl (Or.inr rfl) (d_slice hK (d_var 1) (dp_some d_int) (dp_some (d_neg d_int)))))) (dss_one (ds_ret (d_if (dt_ne hK (units_le' hr) (d_var 1) (d_tup da_nil)) (d_min1 hK rfl (units_le' hr) (by rfl) z_min (da_cons (d_lc (own := [("k", 2)]) (p := (.nm 2)) hK rfl sc__law_ring.nd (di_rg1 (by rfl) z_range (d_len hK (by rfl) z_len (da_cons (d_var 1) da_nil))) (blkOk_by (N := ["letters", "word", "k"]) (sc := defScope s__law_ring) (by decide +kernel)) (by decide) (fun _ _ _ _ _ => (pg_name (i := 2) sc__law_ring.nd rfl (Or.inl rfl))) (fun _ _ _ _ _ _ => dts_nil) (fun _ _ _ _ _ _ => (d_add hK (d_slice hK (d_var 1) (dp_some (d_var 2)) dp_none) (d_slice hK (d_var 1) dp_none (dp_some (d_var 2)))))) da_nil)) (d_tup da_nil))))))
abbrev s__law_undone : Stmt := topS 20
def W__law_undone : FT := fnW 1 2 (sRet (eB wTupOf (aCons (eLc (iAny (e1 wRev (eV 0))) (.nm 1) tYesD (e2 wSub (eK (.int 0)) (eV 1)) [1]) aNil)))
theorem sc__law_undone : FnScope ["word", "letter"] ["word"] (defScope s__law_undone) := ⟨rfl, rfl, rfl, by decide +kernel, rfl, by decide +kernel, by decide +kernel⟩
theorem ok__law_undone (M : Modl K mg) (D__law_undone : DefAt K "_law_undone" s__law_undone) (z_tuple : mg "tuple" = none) : Cal P w K mg base 1 "_law_undone" ["word"] W__law_undone :=
  cal_of (k := 0) M D__law_undone sc__law_undone (fun _ _ _ _ _ _ us hl => match us, hl with | [_], _ => rfl) ⟨rfl, by decide, by decide⟩ fun f cdv A outer s H E B hK hr hgd =>
  (dss_one (ds_ret (d_tupOf hK (by rfl) z_tuple (da_cons (d_lc (own := [("letter", 1)]) (p := (.nm 1)) hK rfl sc__law_undone.nd (di_seq hK (d_rev hK (d_var 0))) (blkOk_by (N := ["word", "letter"]) (sc := defScope s__law_undone) (by decide +kernel)) (by decide) (fun _ _ _ _ _ => (pg_name (i := 1) sc__law_undone.nd rfl (Or.inl rfl))) (fun _ _ _ _ _ _ => dts_nil) (fun _ _ _ _ _ _ => (d_sub d_int (d_var 1)))) da_nil))))
abbrev s__law_drawn : Stmt := topS 21
def B__law_drawn_0 : STy := (sSeq (sSet 5 (eLc (iRg2 (e2 wSub (eK (.int 0)) (eV 1)) (e2 wAdd (eV 1) (eK (.int 1)))) (.nm 4) (tAnd' (tB' (e2 wNe (eV 4) (eK (.int 0)))) (tB' (e2 wNe (eSl (eV 3) (oSome (e1 wNeg (eK (.int 1)))) oNone) (eLst (aCons (e2 wSub (eK (.int 0)) (eV 4)) aNil))))) (eV 4) [4])) (sDrop (eM 3 wAppend (aCons (eCall W__law_of (aCons (eV 0) (aCons (eV 5) aNil))) aNil))))
def S__law_drawn_0 : STy := (sOwn 3 (oLst aNil))
def S__law_drawn_1 : STy := (sFor (iRg1 (e2 wAdd (eK (.int 1)) (eCall W__law_pick (aCons (eV 0) (aCons (eV 2) aNil))))) (.nm 4) B__law_drawn_0)
def S__law_drawn_2 : STy := (sSet 6 (eCall W__law_ring (aCons (eV 3) aNil)))
def S__law_drawn_3 : STy := (sRet (eIf (tB' (e2 wNe (eV 6) (eTup aNil))) (eV 6) (eTup (aCons (eK (.int 1)) aNil))))
def W__law_drawn : FT := fnW 3 7 (sSeq S__law_drawn_0 (sSeq S__law_drawn_1 (sFrz 3 (sSeq S__law_drawn_2 S__law_drawn_3))))
theorem sc__law_drawn : FnScope ["source", "bands", "most", "letters", "k", "some", "ring"] ["source", "bands", "most"] (defScope s__law_drawn) := ⟨rfl, rfl, rfl, by decide +kernel, rfl, by decide +kernel, by decide +kernel⟩
theorem ok__law_drawn (M : Modl K mg) (D__law_drawn : DefAt K "_law_drawn" s__law_drawn) (z_range : mg "range" = none) (C__law_pick : Cal P w K mg base 1 "_law_pick" ["source", "many"] W__law_pick) (C__law_of : Cal P w K mg base 2 "_law_of" ["source", "some"] W__law_of) (C__law_ring : Cal P w K mg base 2 "_law_ring" ["letters"] W__law_ring) : Cal P w K mg base 3 "_law_drawn" ["source", "bands", "most"] W__law_drawn :=
  cal_of (k := 2) M D__law_drawn sc__law_drawn (fun _ _ _ _ _ _ us hl => match us, hl with | [_, _, _], _ => rfl) ⟨rfl, by decide, by decide⟩ fun f cdv A outer s H E B hK hr hgd =>
  (dss_cons (ds_own (i := 3) sc__law_drawn.nd rfl (Or.inr rfl) (do_lst da_nil)) (dss_cons (ds_for (p := (.nm 4)) hK PassesOwn.never rfl (di_rg1 (by rfl) z_range (d_add hK d_int (d_cal hK (C__law_pick) hr hgd (da_cons (d_var 0) (da_cons (d_var 2) da_nil))))) (pg_name (i := 4) sc__law_drawn.nd rfl (Or.inl rfl)) (dss_cons (ds_setLc (i := 5) (own := [("k", 4)]) (p := (.nm 4)) hK rfl sc__law_drawn.nd rfl rfl (sw_true rfl rfl rfl rfl) (di_rg2 (by rfl) z_range (d_sub d_int (d_var 1)) (d_add hK (d_var 1) d_int)) (blkOk_by (N := ["source", "bands", "most", "letters", "k", "some", "ring"]) (sc := defScope s__law_drawn) (by decide +kernel)) (by decide) (fun _ _ _ _ _ => (pg_name (i := 4) sc__law_drawn.nd rfl (Or.inl rfl))) (fun _ _ _ _ _ _ => (dts_one (dw_pt (dw_and (dt_ne hK (units_le' hr) (d_var 4) d_int) (dw_and1 (dt_ne hK (units_le' hr) (d_slice hK (d_var 3) (dp_some (d_neg d_int)) dp_none) (d_lst (da_cons (d_sub d_int (d_var 4)) da_nil)))))))) (fun _ _ _ _ _ _ => (d_var 4))) (dss_one (ds_expr (d_append hK 3 (ha := (da_cons (d_cal hK (C__law_of) hr hgd (da_cons (d_var 0) (da_cons (d_var 5) da_nil))) da_nil))))))) (dss_frz (i := 3) (dss_cons (ds_set (i := 6) sc__law_drawn.nd rfl (Or.inl rfl) (d_cal hK (C__law_ring) hr hgd (da_cons (d_var 3) da_nil))) (dss_one (ds_ret (d_if (dt_ne hK (units_le' hr) (d_var 6) (d_tup da_nil)) (d_var 6) (d_tup (da_cons d_int da_nil)))))))))
abbrev s__law_steps : Stmt := topS 22
def W__law_steps : FT := fnW 3 3 (sRet (e2 wMod (eB wInt1 (aCons (e2 wSub (eIdx (eV 0) (eV 2)) (eIdx (eV 0) (eV 1))) aNil)) (eB wLen (aCons (eV 0) aNil))))
theorem sc__law_steps : FnScope ["plate", "one", "other"] ["plate", "one", "other"] (defScope s__law_steps) := ⟨rfl, rfl, rfl, by decide +kernel, rfl, by decide +kernel, by decide +kernel⟩
theorem ok__law_steps (M : Modl K mg) (D__law_steps : DefAt K "_law_steps" s__law_steps) (z_int : mg "int" = none) (z_len : mg "len" = none) : Cal P w K mg base 1 "_law_steps" ["plate", "one", "other"] W__law_steps :=
  cal_of (k := 0) M D__law_steps sc__law_steps (fun _ _ _ _ _ _ us hl => match us, hl with | [_, _, _], _ => rfl) ⟨rfl, by decide, by decide⟩ fun f cdv A outer s H E B hK hr hgd =>
  (dss_one (ds_ret (d_mod (d_int1 (by rfl) z_int (da_cons (d_sub (d_idxOf hK (d_var 0) (d_var 2)) (d_idxOf hK (d_var 0) (d_var 1))) da_nil)) (d_len hK (by rfl) z_len (da_cons (d_var 0) da_nil)))))
abbrev s__law_digits : Stmt := topS 23
def B__law_digits_0 : STy := (sSeq (sPar 6 7 (e2 wIx (eV 1) (e2 wMod (eB wInt1 (aCons (e2 wAdd (eV 2) (eV 5)) aNil)) (eB wLen (aCons (eV 1) aNil)))) (e2 wIx (eV 1) (e2 wMod (eB wInt1 (aCons (e2 wAdd (e2 wAdd (eV 2) (eV 5)) (eK (.int 1))) aNil)) (eB wLen (aCons (eV 1) aNil))))) (sDrop (eM 4 wAppend (aCons (eCall W__law_steps (aCons (eV 0) (aCons (e2 wSub (eK (.int 0)) (eV 6)) (aCons (eV 7) aNil)))) aNil))))
def W__law_digits : FT := fnW 4 8 (sSeq (sOwn 4 (oLst aNil)) (sSeq (sFor (iRg1 (eV 3)) (.nm 5) B__law_digits_0) (sRet (eV 4))))
theorem sc__law_digits : FnScope ["plate", "ring", "at", "many", "found", "k", "here", "late"] ["plate", "ring", "at", "many"] (defScope s__law_digits) := ⟨rfl, rfl, rfl, by decide +kernel, rfl, by decide +kernel, by decide +kernel⟩
theorem ok__law_digits (M : Modl K mg) (D__law_digits : DefAt K "_law_digits" s__law_digits) (z_int : mg "int" = none) (z_len : mg "len" = none) (z_range : mg "range" = none) (C__law_steps : Cal P w K mg base 1 "_law_steps" ["plate", "one", "other"] W__law_steps) : Cal P w K mg base 2 "_law_digits" ["plate", "ring", "at", "many"] W__law_digits :=
  cal_of (k := 1) M D__law_digits sc__law_digits (fun _ _ _ _ _ _ us hl => match us, hl with | [_, _, _, _], _ => rfl) ⟨rfl, by decide, by decide⟩ fun f cdv A outer s H E B hK hr hgd =>
  (dss_cons (ds_own (i := 4) sc__law_digits.nd rfl (Or.inl rfl) (do_lst da_nil)) (dss_cons (ds_for (p := (.nm 5)) hK PassesOwn.never rfl (di_rg1 (by rfl) z_range (d_var 3)) (pg_name (i := 5) sc__law_digits.nd rfl (Or.inl rfl)) (dss_cons (ds_par (i := 6) (j := 7) rfl sc__law_digits.nd rfl rfl (by decide) rfl rfl (d_idx hK (d_var 1) (d_mod (d_int1 (by rfl) z_int (da_cons (d_add hK (d_var 2) (d_var 5)) da_nil)) (d_len hK (by rfl) z_len (da_cons (d_var 1) da_nil)))) (d_idx hK (d_var 1) (d_mod (d_int1 (by rfl) z_int (da_cons (d_add hK (d_add hK (d_var 2) (d_var 5)) d_int) da_nil)) (d_len hK (by rfl) z_len (da_cons (d_var 1) da_nil)))) (by rfl)) (dss_one (ds_expr (d_append hK 4 (ha := (da_cons (d_cal hK (C__law_steps) hr hgd (da_cons (d_var 0) (da_cons (d_sub d_int (d_var 6)) (da_cons (d_var 7) da_nil)))) da_nil))))))) (dss_one (ds_ret (d_var 4)))))
abbrev s__law_sum : Stmt := topS 24
def B__law_sum_0 : STy := (sSeq (sSet 4 (e2 wFdiv (eV 4) (eV 0))) (sSet 3 (e2 wAdd (eV 3) (e2 wMul (eV 5) (eV 4)))))
def W__law_sum : FT := fnW 3 6 (sSeq (sPar 3 4 (eK (.int 0)) (eV 2)) (sSeq (sFor (iAny (eV 1)) (.nm 5) B__law_sum_0) (sRet (eV 3))))
theorem sc__law_sum : FnScope ["base", "digits", "bottom", "found", "power", "digit"] ["base", "digits", "bottom"] (defScope s__law_sum) := ⟨rfl, rfl, rfl, by decide +kernel, rfl, by decide +kernel, by decide +kernel⟩
theorem ok__law_sum (M : Modl K mg) (D__law_sum : DefAt K "_law_sum" s__law_sum) : Cal P w K mg base 1 "_law_sum" ["base", "digits", "bottom"] W__law_sum :=
  cal_of (k := 0) M D__law_sum sc__law_sum (fun _ _ _ _ _ _ us hl => match us, hl with | [_, _, _], _ => rfl) ⟨rfl, by decide, by decide⟩ fun f cdv A outer s H E B hK hr hgd =>
  (dss_cons (ds_par (i := 3) (j := 4) rfl sc__law_sum.nd rfl rfl (by decide) rfl rfl d_int (d_var 2) (by rfl)) (dss_cons (ds_for (p := (.nm 5)) hK PassesOwn.never rfl (di_seq hK (d_var 1)) (pg_name (i := 5) sc__law_sum.nd rfl (Or.inl rfl)) (dss_cons (ds_set (i := 4) sc__law_sum.nd rfl (Or.inl rfl) (d_fdiv (d_var 4) (d_var 0))) (dss_one (ds_set (i := 3) sc__law_sum.nd rfl (Or.inl rfl) (d_add hK (d_var 3) (d_mul hK (d_var 5) (d_var 4))))))) (dss_one (ds_ret (d_var 3)))))
abbrev s_law : Stmt := topS 25
def B_law_0 : STy := (sSet 12 (e2 wMul (eV 12) (eV 4)))
def B_law_1 : STy := (sSet 19 (e2 wMul (eV 19) (eV 4)))
def S_law_0 : STy := (sSet 18 (e2 wSub (e2 wMul (eV 16) (eV 12)) (e2 wMul (eV 17) (eCall W__law_sum (aCons (eV 4) (aCons (eV 15) (aCons (eV 12) aNil)))))))
def S_law_1 : STy := (sIf (tOr' (tB' (e2 wLe (eV 18) (eK (.int 0)))) (tOr' (tB' (e2 wGt (eV 18) (eV 17))) (tB' (e2 wNe (eLc (iAny (eV 15)) (.nm 33) (tOr' (tB' (e2 wLt (eV 33) (eK (.int 1)))) (tB' (e2 wGe (eV 33) (eV 4)))) (eV 33) [33]) (eLst aNil))))) (sRet (eK (.bool false))) sNext)
def S_law_2 : STy := (sSet 19 (eK (.int 1)))
def S_law_3 : STy := (sFor (iRg1 (eB wLen (aCons (eV 7) aNil))) (.nm 13) B_law_1)
def S_law_4 : STy := (sIf (tB' (e2 wNe (eV 17) (e2 wSub (eV 19) (eK (.int 1))))) (sRet (eK (.bool false))) sNext)
def B_law_2 : STy := (sSeq S_law_0 (sSeq S_law_1 (sSeq S_law_2 (sSeq S_law_3 S_law_4))))
def S_law_5 : STy := (sSet 10 (eCall W__law_digits (aCons (eV 3) (aCons (eV 7) (aCons (eV 9) (aCons (e2 wMul (eK (.int 3)) (eB wLen (aCons (eV 7) aNil))) aNil))))))
def S_law_6 : STy := (sSet 11 (eCall W__law_digits (aCons (eV 3) (aCons (eV 8) (aCons (e2 wSub (e2 wSub (eB wLen (aCons (eV 7) aNil)) (eK (.int 1))) (eV 9)) (aCons (e2 wMul (eK (.int 3)) (eB wLen (aCons (eV 7) aNil))) aNil))))))
def S_law_7 : STy := (sSet 12 (eK (.int 1)))
def S_law_8 : STy := (sFor (iRg1 (e2 wMul (eK (.int 3)) (eB wLen (aCons (eV 7) aNil)))) (.nm 13) B_law_0)
def S_law_9 : STy := (sSet 14 (eLst (aCons (eCall W_ray_number (aCons (eV 3) (aCons (eV 7) (aCons (eV 9) aNil)))) (aCons (eCall W_back_number (aCons (eV 3) (aCons (eV 7) (aCons (eV 9) aNil)))) aNil))))
def S_law_10 : STy := (sFor (iZp (eV 14) (eTup (aCons (eV 10) (aCons (eV 11) aNil)))) (.tup [(.tup [(.nm 16), (.nm 17)]), (.nm 15)]) B_law_2)
def S_law_11 : STy := (sSet 20 (eIf (tB' (e2 wGt (e2 wIx (eV 7) (eV 9)) (eK (.int 0)))) (eB wTupOf (aCons (eV 14) aNil)) (eTup (aCons (e2 wIx (eV 14) (eK (.int 1))) (aCons (e2 wIx (eV 14) (eK (.int 0))) aNil)))))
def S_law_12 : STy := (sIf (tB' (e2 wNe (eB wRepr (aCons (eCall W_thread_numbers (aCons (eV 3) (aCons (eV 7) (aCons (eV 9) aNil)))) aNil)) (eB wRepr (aCons (eV 20) aNil)))) (sRet (eK (.bool false))) sNext)
def S_law_13 : STy := (sAsg (.tup [(.nm 16), (.nm 17)]) (eCall W_ray_number (aCons (eV 3) (aCons (eV 7) (aCons (e2 wMod (eB wInt1 (aCons (e2 wAdd (eV 9) (eK (.int 1))) aNil)) (eB wLen (aCons (eV 7) aNil))) aNil)))))
def S_law_14 : STy := (sIf (tB' (e2 wNe (e2 wMul (eV 16) (e2 wIx (e2 wIx (eV 14) (eK (.int 0))) (eK (.int 1)))) (e2 wMul (e2 wSub (e2 wMul (eV 4) (e2 wIx (e2 wIx (eV 14) (eK (.int 0))) (eK (.int 0)))) (e2 wMul (e2 wIx (eV 10) (eK (.int 0))) (e2 wIx (e2 wIx (eV 14) (eK (.int 0))) (eK (.int 1))))) (eV 17)))) (sRet (eK (.bool false))) sNext)
def S_law_15 : STy := (sDicSet 6 (e2 wIx (eV 7) (eV 9)) (e2 wAdd (eDGet2 6 (e2 wIx (eV 7) (eV 9)) (eLst aNil)) (eLst (aCons (eTup (aCons (e2 wIx (eV 14) (eK (.int 0))) (aCons (e2 wMul (eV 10) (eK (.int 3))) aNil))) aNil))))
def B_law_3 : STy := (sSeq S_law_5 (sSeq S_law_6 (sSeq S_law_7 (sSeq S_law_8 (sSeq S_law_9 (sSeq S_law_10 (sSeq S_law_11 (sSeq S_law_12 (sSeq S_law_13 (sSeq S_law_14 S_law_15))))))))))
def B_law_4 : STy := (sSeq (sSet 8 (eCall W__law_undone (aCons (eV 7) aNil))) (sFor (iRg1 (eB wLen (aCons (eV 7) aNil))) (.nm 9) B_law_3))
def S_law_16 : STy := (sAsg (.tup [(.tup [(.nm 23), (.nm 15)]), (.tup [(.nm 24), (.nm 25)])]) (eTup (aCons (eCall W__law_of (aCons (eV 1) (aCons (eV 22) aNil))) (aCons (eCall W__law_of (aCons (eV 1) (aCons (eV 22) aNil))) aNil))))
def S_law_17 : STy := (sSet 26 (eSl (eLc (iZp (eV 15) (eV 25)) (.tup [(.nm 31), (.nm 32)]) (tB' (e2 wNe (eV 31) (eV 32))) (eTup (aCons (eV 31) (aCons (eV 32) aNil))) [31, 32]) oNone (oSome (eK (.int 1)))))
def S_law_18 : STy := (sSet 27 (eIf (tB' (e2 wEq (eV 26) (eLst aNil))) (eK (.int 0)) (eIf (tB' (e2 wGt (e2 wIx (e2 wIx (eV 26) (eK (.int 0))) (eK (.int 0))) (e2 wIx (e2 wIx (eV 26) (eK (.int 0))) (eK (.int 1))))) (eK (.int 1)) (e1 wNeg (eK (.int 1))))))
def S_law_19 : STy := (sIf (tOr' (tB' (e2 wNe (eCall W_numbers_order (aCons (eV 23) (aCons (eV 24) aNil))) (eV 27))) (tB' (e2 wNe (eCall W_numbers_order (aCons (eV 24) (aCons (eV 23) aNil))) (e2 wSub (eK (.int 0)) (eV 27))))) (sRet (eK (.bool false))) sNext)
def B_law_5 : STy := (sSeq S_law_16 (sSeq S_law_17 (sSeq S_law_18 S_law_19)))
def B_law_6 : STy := (sFor (iRg1 (eK (.int 3))) (.nm 13) B_law_5)
def S_law_20 : STy := (sOwn 1 (oCall W__law_source (aCons (eV 0) aNil)))
def S_law_21 : STy := (sSet 2 (e2 wAdd (eK (.int 1)) (eCall W__law_pick (aCons (eV 1) (aCons (eK (.int 4)) aNil)))))
def S_law_22 : STy := (sAsg (.tup [(.nm 3), (.nm 4)]) (eTup (aCons (eCall W__law_plate (aCons (eV 1) (aCons (eV 2) aNil))) (aCons (e2 wMul (eK (.int 2)) (eV 2)) aNil))))
def S_law_23 : STy := (sSet 5 (eLst (aCons (eCall W__law_drawn (aCons (eV 1) (aCons (eV 2) (aCons (eK (.int 6)) aNil)))) (aCons (eCall W__law_drawn (aCons (eV 1) (aCons (eV 2) (aCons (eK (.int 4)) aNil)))) aNil))))
def S_law_24 : STy := (sSet 5 (e2 wAdd (eV 5) (eLst (aCons (e2 wMul (e2 wIx (eV 5) (eK (.int 0))) (eK (.int 2))) (aCons (eCall W__law_ring (aCons (eCall W__law_undone (aCons (e2 wIx (eV 5) (eK (.int 1))) aNil)) aNil)) aNil)))))
def S_law_25 : STy := (sOwn 6 oDic)
def S_law_26 : STy := (sFor (iAny (eV 5)) (.nm 7) B_law_4)
def S_law_27 : STy := (sFor (iItm 6) (.tup [(.nm 21), (.nm 22)]) B_law_6)
def S_law_28 : STy := (sIf (tB' (e2 wGt (eV 2) (eK (.int 1)))) (sSeq (sSet 28 (eSl (eCall W__law_mixed (aCons (eV 1) (aCons (eV 3) aNil))) oNone (oSome (eK (.int 4))))) (sSeq (sSet 29 (eLc (iAny (eSl (eV 28) (oSome (eK (.int 2))) oNone)) (.nm 30) tYesD (e2 wLt (eCall W__law_steps (aCons (eV 3) (aCons (e2 wIx (eV 28) (eK (.int 0))) (aCons (eV 30) aNil)))) (eCall W__law_steps (aCons (eV 3) (aCons (e2 wIx (eV 28) (eK (.int 0))) (aCons (e2 wIx (eV 28) (eK (.int 1))) aNil))))) [30])) (sIf (tB' (e2 wNe (eCall W_are_by_turns (aCons (eV 3) (aCons (eTup (aCons (e2 wIx (eV 28) (eK (.int 0))) (aCons (e2 wIx (eV 28) (eK (.int 1))) aNil))) (aCons (eTup (aCons (e2 wIx (eV 28) (eK (.int 2))) (aCons (e2 wIx (eV 28) (eK (.int 3))) aNil))) aNil)))) (e2 wNe (e2 wIx (eV 29) (eK (.int 0))) (e2 wIx (eV 29) (eK (.int 1)))))) (sRet (eK (.bool false))) sNext))) sNext)
def S_law_29 : STy := (sRet (eK (.bool true)))
def W_law : FT := fnW 1 34 (sSeq S_law_20 (sSeq S_law_21 (sSeq S_law_22 (sSeq S_law_23 (sSeq S_law_24 (sSeq S_law_25 (sSeq S_law_26 (sSeq S_law_27 (sSeq S_law_28 S_law_29)))))))))
theorem sc_law : FnScope [("script" : Str), ("source" : Str), ("bands" : Str), ("plate" : Str), ("base" : Str), ("rings" : Str), ("known" : Str), ("ring" : Str), ("back" : Str), ("at" : Str), ("digits" : Str), ("behind" : Str), ("many" : Str), ("lap" : Str), ("told" : Str), ("row" : Str), ("top" : Str), ("bottom" : Str), ("rest" : Str), ("once" : Str), ("pair" : Str), ("letter" : Str), ("some" : Str), ("one" : Str), ("other" : Str), ("line" : Str), ("first" : Str), ("due" : Str), ("ends" : Str), ("turns" : Str), ("end" : Str), ("a" : Str), ("b" : Str), ("digit" : Str)] ["script"] (defScope s_law) := ⟨rfl, rfl, rfl, by decide +kernel, rfl, by decide +kernel, by decide +kernel⟩
theorem body_law (z_int : mg "int" = none) (z_len : mg "len" = none) (z_range : mg "range" = none) (z_repr : mg "repr" = none) (z_tuple : mg "tuple" = none) (z_zip : mg "zip" = none) (C__law_source : Cal P w K mg base 1 "_law_source" ["script"] W__law_source) (C__law_pick : Cal P w K mg base 1 "_law_pick" ["source", "many"] W__law_pick) (C__law_plate : Cal P w K mg base 3 "_law_plate" ["source", "bands"] W__law_plate) (C__law_drawn : Cal P w K mg base 3 "_law_drawn" ["source", "bands", "most"] W__law_drawn) (C__law_ring : Cal P w K mg base 2 "_law_ring" ["letters"] W__law_ring) (C__law_undone : Cal P w K mg base 1 "_law_undone" ["word"] W__law_undone) (C__law_digits : Cal P w K mg base 2 "_law_digits" ["plate", "ring", "at", "many"] W__law_digits) (C_back_number : Cal P w K mg base 4 "back_number" ["plate", "ring", "at"] W_back_number) (C_ray_number : Cal P w K mg base 3 "ray_number" ["plate", "ring", "at"] W_ray_number) (C__law_sum : Cal P w K mg base 1 "_law_sum" ["base", "digits", "bottom"] W__law_sum) (C_thread_numbers : Cal P w K mg base 5 "thread_numbers" ["plate", "ring", "at"] W_thread_numbers) (C__law_of : Cal P w K mg base 2 "_law_of" ["source", "some"] W__law_of) (C_numbers_order : Cal P w K mg base 1 "numbers_order" ["one", "other"] W_numbers_order) (C__law_mixed : Cal P w K mg base 2 "_law_mixed" ["source", "things"] W__law_mixed) (C__law_steps : Cal P w K mg base 1 "_law_steps" ["plate", "one", "other"] W__law_steps) (C_are_by_turns : Cal P w K mg base 2 "are_by_turns" ["plate", "pair", "late"] W_are_by_turns) (f : Addr) (cdv : Value) (A : Around) (outer : List PySem.Env) (s : Shared) (H : Hp) (E : XK) (B : BI) (hK : B.K = K) (hr : Room 5 (A.deeper (envOfC "law" (defScope s_law) s.heap.objs.size f cdv))) (hgd : (A.deeper (envOfC "law" (defScope s_law) s.heap.objs.size f cdv)).guards = some []) :
    DSs (cxOf CX0 P w K mg base [("script" : Str), ("source" : Str), ("bands" : Str), ("plate" : Str), ("base" : Str), ("rings" : Str), ("known" : Str), ("ring" : Str), ("back" : Str), ("at" : Str), ("digits" : Str), ("behind" : Str), ("many" : Str), ("lap" : Str), ("told" : Str), ("row" : Str), ("top" : Str), ("bottom" : Str), ("rest" : Str), ("once" : Str), ("pair" : Str), ("letter" : Str), ("some" : Str), ("one" : Str), ("other" : Str), ("line" : Str), ("first" : Str), ("due" : Str), ("ends" : Str), ("turns" : Str), ("end" : Str), ("a" : Str), ("b" : Str), ("digit" : Str)] "law" (defScope s_law) f cdv A outer s H E).nox B (defBody s_law) (sSeq S_law_20 (sSeq S_law_21 (sSeq S_law_22 (sSeq S_law_23 (sSeq S_law_24 (sSeq S_law_25 (sSeq S_law_26 (sSeq S_law_27 (sSeq S_law_28 S_law_29))))))))) :=
  (dss_cons (ds_own (i := 1) sc_law.nd rfl (Or.inl rfl) (do_cal hK (C__law_source) hr hgd (da_cons (d_var 0) da_nil))) (dss_cons (ds_set (i := 2) sc_law.nd rfl (Or.inl rfl) (d_add hK d_int (d_cal hK (C__law_pick) hr hgd (da_cons (d_var 1) (da_cons d_int da_nil))))) (dss_cons (ds_asg (p := (.tup [(.nm 3), (.nm 4)])) hK (d_tup (da_cons (d_cal hK (C__law_plate) hr hgd (da_cons (d_var 1) (da_cons (d_var 2) da_nil))) (da_cons (d_mul hK d_int (d_var 2)) da_nil))) (pg_tl rfl (pgs_cons (pg_name (i := 3) sc_law.nd rfl (Or.inr rfl)) (pgs_cons (pg_name (i := 4) sc_law.nd rfl (Or.inr rfl)) pgs_nil)))) (dss_cons (ds_set (i := 5) sc_law.nd rfl (Or.inl rfl) (d_lst (da_cons (d_cal hK (C__law_drawn) hr hgd (da_cons (d_var 1) (da_cons (d_var 2) (da_cons d_int da_nil)))) (da_cons (d_cal hK (C__law_drawn) hr hgd (da_cons (d_var 1) (da_cons (d_var 2) (da_cons d_int da_nil)))) da_nil)))) (dss_cons (ds_set (i := 5) sc_law.nd rfl (Or.inl rfl) (d_add hK (d_var 5) (d_lst (da_cons (d_mul hK (d_idx hK (d_var 5) d_int) d_int) (da_cons (d_cal hK (C__law_ring) hr hgd (da_cons (d_cal hK (C__law_undone) hr hgd (da_cons (d_idx hK (d_var 5) d_int) da_nil)) da_nil)) da_nil))))) (dss_cons (ds_own (i := 6) sc_law.nd rfl (Or.inl rfl) do_dic) (dss_cons (ds_for (p := (.nm 7)) hK PassesOwn.never rfl (di_seq hK (d_var 5)) (pg_name (i := 7) sc_law.nd rfl (Or.inl rfl)) (dss_cons (ds_set (i := 8) sc_law.nd rfl (Or.inl rfl) (d_cal hK (C__law_undone) hr hgd (da_cons (d_var 7) da_nil))) (dss_one (ds_for (p := (.nm 9)) hK PassesOwn.never rfl (di_rg1 (by rfl) z_range (d_len hK (by rfl) z_len (da_cons (d_var 7) da_nil))) (pg_name (i := 9) sc_law.nd rfl (Or.inl rfl)) (dss_cons (ds_set (i := 10) sc_law.nd rfl (Or.inl rfl) (d_cal hK (C__law_digits) hr hgd (da_cons (d_var 3) (da_cons (d_var 7) (da_cons (d_var 9) (da_cons (d_mul hK d_int (d_len hK (by rfl) z_len (da_cons (d_var 7) da_nil))) da_nil)))))) (dss_cons (ds_set (i := 11) sc_law.nd rfl (Or.inl rfl) (d_cal hK (C__law_digits) hr hgd (da_cons (d_var 3) (da_cons (d_var 8) (da_cons (d_sub (d_sub (d_len hK (by rfl) z_len (da_cons (d_var 7) da_nil)) d_int) (d_var 9)) (da_cons (d_mul hK d_int (d_len hK (by rfl) z_len (da_cons (d_var 7) da_nil))) da_nil)))))) (dss_cons (ds_set (i := 12) sc_law.nd rfl (Or.inl rfl) d_int) (dss_cons (ds_for (p := (.nm 13)) hK PassesOwn.never rfl (di_rg1 (by rfl) z_range (d_mul hK d_int (d_len hK (by rfl) z_len (da_cons (d_var 7) da_nil)))) (pg_name (i := 13) sc_law.nd rfl (Or.inl rfl)) (dss_one (ds_set (i := 12) sc_law.nd rfl (Or.inl rfl) (d_mul hK (d_var 12) (d_var 4))))) (dss_cons (ds_set (i := 14) sc_law.nd rfl (Or.inl rfl) (d_lst (da_cons (d_cal hK (C_ray_number) hr hgd (da_cons (d_var 3) (da_cons (d_var 7) (da_cons (d_var 9) da_nil)))) (da_cons (d_cal hK (C_back_number) hr hgd (da_cons (d_var 3) (da_cons (d_var 7) (da_cons (d_var 9) da_nil)))) da_nil)))) (dss_cons (ds_for (p := (.tup [(.tup [(.nm 16), (.nm 17)]), (.nm 15)])) hK PassesOwn.never rfl (di_zip hK (by rfl) z_zip (d_var 14) (d_tup (da_cons (d_var 10) (da_cons (d_var 11) da_nil)))) (pg_tl rfl (pgs_cons (pg_tl rfl (pgs_cons (pg_name (i := 16) sc_law.nd rfl (Or.inl rfl)) (pgs_cons (pg_name (i := 17) sc_law.nd rfl (Or.inl rfl)) pgs_nil))) (pgs_cons (pg_name (i := 15) sc_law.nd rfl (Or.inl rfl)) pgs_nil))) (dss_cons (ds_set (i := 18) sc_law.nd rfl (Or.inl rfl) (d_sub (d_mul hK (d_var 16) (d_var 12)) (d_mul hK (d_var 17) (d_cal hK (C__law_sum) hr hgd (da_cons (d_var 4) (da_cons (d_var 15) (da_cons (d_var 12) da_nil))))))) (dss_cons (ds_if (dw_pt (dw_or (dt_le (d_var 18) d_int) (dw_or (dt_gt (d_var 18) (d_var 17)) (dw_or1 (dt_ne hK (units_le' hr) (d_lc (own := [("digit", 33)]) (p := (.nm 33)) hK rfl sc_law.nd (di_seq hK (d_var 15)) (blkOk_by (N := [("script" : Str), ("source" : Str), ("bands" : Str), ("plate" : Str), ("base" : Str), ("rings" : Str), ("known" : Str), ("ring" : Str), ("back" : Str), ("at" : Str), ("digits" : Str), ("behind" : Str), ("many" : Str), ("lap" : Str), ("told" : Str), ("row" : Str), ("top" : Str), ("bottom" : Str), ("rest" : Str), ("once" : Str), ("pair" : Str), ("letter" : Str), ("some" : Str), ("one" : Str), ("other" : Str), ("line" : Str), ("first" : Str), ("due" : Str), ("ends" : Str), ("turns" : Str), ("end" : Str), ("a" : Str), ("b" : Str), ("digit" : Str)]) (sc := defScope s_law) (by decide +kernel)) (by decide) (fun _ _ _ _ _ => (pg_name (i := 33) sc_law.nd rfl (Or.inl rfl))) (fun _ _ _ _ _ _ => (dts_one (dw_pt (dw_or (dt_lt hK (units_lt hr) (d_var 33) d_int) (dw_or1 (dt_ge (d_var 33) (d_var 4))))))) (fun _ _ _ _ _ _ => (d_var 33))) (d_lst da_nil)))))) (dss_one (ds_ret d_bl)) dss_nil) (dss_cons (ds_set (i := 19) sc_law.nd rfl (Or.inl rfl) d_int) (dss_cons (ds_for (p := (.nm 13)) hK PassesOwn.never rfl (di_rg1 (by rfl) z_range (d_len hK (by rfl) z_len (da_cons (d_var 7) da_nil))) (pg_name (i := 13) sc_law.nd rfl (Or.inl rfl)) (dss_one (ds_set (i := 19) sc_law.nd rfl (Or.inl rfl) (d_mul hK (d_var 19) (d_var 4))))) (dss_one (ds_if (dt_ne hK (units_le' hr) (d_var 17) (d_sub (d_var 19) d_int)) (dss_one (ds_ret d_bl)) dss_nil))))))) (dss_cons (ds_set (i := 20) sc_law.nd rfl (Or.inl rfl) (d_if (dt_gt (d_idx hK (d_var 7) (d_var 9)) d_int) (d_tupOf hK (by rfl) z_tuple (da_cons (d_var 14) da_nil)) (d_tup (da_cons (d_idx hK (d_var 14) d_int) (da_cons (d_idx hK (d_var 14) d_int) da_nil))))) (dss_cons (ds_if (dt_ne hK (units_le' hr) (d_repr hK hgd (units_le hr) (by rfl) z_repr (da_cons (d_cal hK (C_thread_numbers) hr hgd (da_cons (d_var 3) (da_cons (d_var 7) (da_cons (d_var 9) da_nil)))) da_nil)) (d_repr hK hgd (units_le hr) (by rfl) z_repr (da_cons (d_var 20) da_nil))) (dss_one (ds_ret d_bl)) dss_nil) (dss_cons (ds_asg (p := (.tup [(.nm 16), (.nm 17)])) hK (d_cal hK (C_ray_number) hr hgd (da_cons (d_var 3) (da_cons (d_var 7) (da_cons (d_mod (d_int1 (by rfl) z_int (da_cons (d_add hK (d_var 9) d_int) da_nil)) (d_len hK (by rfl) z_len (da_cons (d_var 7) da_nil))) da_nil)))) (pg_tl rfl (pgs_cons (pg_name (i := 16) sc_law.nd rfl (Or.inl rfl)) (pgs_cons (pg_name (i := 17) sc_law.nd rfl (Or.inl rfl)) pgs_nil)))) (dss_cons (ds_if (dt_ne hK (units_le' hr) (d_mul hK (d_var 16) (d_idx hK (d_idx hK (d_var 14) d_int) d_int)) (d_mul hK (d_sub (d_mul hK (d_var 4) (d_idx hK (d_idx hK (d_var 14) d_int) d_int)) (d_mul hK (d_idx hK (d_var 10) d_int) (d_idx hK (d_idx hK (d_var 14) d_int) d_int))) (d_var 17))) (dss_one (ds_ret d_bl)) dss_nil) (dss_one (ds_dicSet (u1_lt (units_le' hr)) 6 (d_idx hK (d_var 7) (d_var 9)) (d_add hK (d_dGet2 (u1_lt (units_le' hr)) 6 (d_idx hK (d_var 7) (d_var 9)) (d_lst da_nil) ⟨rfl, rfl, rfl, rfl⟩) (d_lst (da_cons (d_tup (da_cons (d_idx hK (d_var 14) d_int) (da_cons (d_mul hK (d_var 10) d_int) da_nil))) da_nil))))))))))))))))))) (dss_cons (ds_for (p := (.tup [(.nm 21), (.nm 22)])) hK PassesOwn.never rfl (di_items 6) (pg_tl rfl (pgs_cons (pg_name (i := 21) sc_law.nd rfl (Or.inl rfl)) (pgs_cons (pg_name (i := 22) sc_law.nd rfl (Or.inl rfl)) pgs_nil))) (dss_one (ds_for (p := (.nm 13)) hK PassesOwn.never rfl (di_rg1 (by rfl) z_range d_int) (pg_name (i := 13) sc_law.nd rfl (Or.inl rfl)) (dss_cons (ds_asg (p := (.tup [(.tup [(.nm 23), (.nm 15)]), (.tup [(.nm 24), (.nm 25)])])) hK (d_tup (da_cons (d_cal hK (C__law_of) hr hgd (da_cons (d_var 1) (da_cons (d_var 22) da_nil))) (da_cons (d_cal hK (C__law_of) hr hgd (da_cons (d_var 1) (da_cons (d_var 22) da_nil))) da_nil))) (pg_tl rfl (pgs_cons (pg_tl rfl (pgs_cons (pg_name (i := 23) sc_law.nd rfl (Or.inl rfl)) (pgs_cons (pg_name (i := 15) sc_law.nd rfl (Or.inl rfl)) pgs_nil))) (pgs_cons (pg_tl rfl (pgs_cons (pg_name (i := 24) sc_law.nd rfl (Or.inl rfl)) (pgs_cons (pg_name (i := 25) sc_law.nd rfl (Or.inl rfl)) pgs_nil))) pgs_nil)))) (dss_cons (ds_set (i := 26) sc_law.nd rfl (Or.inl rfl) (d_slice hK (d_lc (own := [("a", 31), ("b", 32)]) (p := (.tup [(.nm 31), (.nm 32)])) hK rfl sc_law.nd (di_zip hK (by rfl) z_zip (d_var 15) (d_var 25)) (blkOk_by (N := [("script" : Str), ("source" : Str), ("bands" : Str), ("plate" : Str), ("base" : Str), ("rings" : Str), ("known" : Str), ("ring" : Str), ("back" : Str), ("at" : Str), ("digits" : Str), ("behind" : Str), ("many" : Str), ("lap" : Str), ("told" : Str), ("row" : Str), ("top" : Str), ("bottom" : Str), ("rest" : Str), ("once" : Str), ("pair" : Str), ("letter" : Str), ("some" : Str), ("one" : Str), ("other" : Str), ("line" : Str), ("first" : Str), ("due" : Str), ("ends" : Str), ("turns" : Str), ("end" : Str), ("a" : Str), ("b" : Str), ("digit" : Str)]) (sc := defScope s_law) (by decide +kernel)) (by decide) (fun _ _ _ _ _ => (pg_tl rfl (pgs_cons (pg_name (i := 31) sc_law.nd rfl (Or.inl rfl)) (pgs_cons (pg_name (i := 32) sc_law.nd rfl (Or.inl rfl)) pgs_nil)))) (fun _ _ _ _ _ _ => (dts_one (dt_ne hK (units_le' hr) (d_var 31) (d_var 32)))) (fun _ _ _ _ _ _ => (d_tup (da_cons (d_var 31) (da_cons (d_var 32) da_nil))))) dp_none (dp_some d_int))) (dss_cons (ds_set (i := 27) sc_law.nd rfl (Or.inl rfl) (d_if (dt_eq hK (units_le' hr) (d_var 26) (d_lst da_nil)) d_int (d_if (dt_gt (d_idx hK (d_idx hK (d_var 26) d_int) d_int) (d_idx hK (d_idx hK (d_var 26) d_int) d_int)) d_int (d_neg d_int)))) (dss_one (ds_if (dw_pt (dw_or (dt_ne hK (units_le' hr) (d_cal hK (C_numbers_order) hr hgd (da_cons (d_var 23) (da_cons (d_var 24) da_nil))) (d_var 27)) (dw_or1 (dt_ne hK (units_le' hr) (d_cal hK (C_numbers_order) hr hgd (da_cons (d_var 24) (da_cons (d_var 23) da_nil))) (d_sub d_int (d_var 27)))))) (dss_one (ds_ret d_bl)) dss_nil)))))))) (dss_cons (ds_if (dt_gt (d_var 2) d_int) (dss_cons (ds_set (i := 28) sc_law.nd rfl (Or.inr rfl) (d_slice hK (d_cal hK (C__law_mixed) hr hgd (da_cons (d_var 1) (da_cons (d_var 3) da_nil))) dp_none (dp_some d_int))) (dss_cons (ds_setLc (i := 29) (own := [("end", 30)]) (p := (.nm 30)) hK rfl sc_law.nd rfl rfl (sw_true rfl rfl rfl rfl) (di_seq hK (d_slice hK (d_var 28) (dp_some d_int) dp_none)) (blkOk_by (N := [("script" : Str), ("source" : Str), ("bands" : Str), ("plate" : Str), ("base" : Str), ("rings" : Str), ("known" : Str), ("ring" : Str), ("back" : Str), ("at" : Str), ("digits" : Str), ("behind" : Str), ("many" : Str), ("lap" : Str), ("told" : Str), ("row" : Str), ("top" : Str), ("bottom" : Str), ("rest" : Str), ("once" : Str), ("pair" : Str), ("letter" : Str), ("some" : Str), ("one" : Str), ("other" : Str), ("line" : Str), ("first" : Str), ("due" : Str), ("ends" : Str), ("turns" : Str), ("end" : Str), ("a" : Str), ("b" : Str), ("digit" : Str)]) (sc := defScope s_law) (by decide +kernel)) (by decide) (fun _ _ _ _ _ => (pg_name (i := 30) sc_law.nd rfl (Or.inl rfl))) (fun _ _ _ _ _ _ => dts_nil) (fun _ _ _ _ _ _ => (d_lt hK (units_lt hr) (d_cal hK (C__law_steps) hr hgd (da_cons (d_var 3) (da_cons (d_idx hK (d_var 28) d_int) (da_cons (d_var 30) da_nil)))) (d_cal hK (C__law_steps) hr hgd (da_cons (d_var 3) (da_cons (d_idx hK (d_var 28) d_int) (da_cons (d_idx hK (d_var 28) d_int) da_nil))))))) (dss_one (ds_if (dt_ne hK (units_le' hr) (d_cal hK (C_are_by_turns) hr hgd (da_cons (d_var 3) (da_cons (d_tup (da_cons (d_idx hK (d_var 28) d_int) (da_cons (d_idx hK (d_var 28) d_int) da_nil))) (da_cons (d_tup (da_cons (d_idx hK (d_var 28) d_int) (da_cons (d_idx hK (d_var 28) d_int) da_nil))) da_nil)))) (d_ne hK (units_le' hr) (d_idx hK (d_var 29) d_int) (d_idx hK (d_var 29) d_int))) (dss_one (ds_ret d_bl)) dss_nil)))) dss_nil) (dss_one (ds_ret d_bl)))))))))))
theorem all_mk {l : PySem.W.OpenLaw} {w : World} {K : PySem.W.Frag} {h : Heap} {mg : Str → Option Value} {fa : Addr} (X : K.In h) (G : h.Ns mainGlobals mg) (hfa : mg "law" = some (.ref fa)) (D_end_places : DefAt K "end_places" s_end_places) (D_word_undone : DefAt K "word_undone" s_word_undone) (D_ray_digits : DefAt K "ray_digits" s_ray_digits) (D_digits_number : DefAt K "digits_number" s_digits_number) (D_ray_number : DefAt K "ray_number" s_ray_number) (D_back_number : DefAt K "back_number" s_back_number) (D_thread_numbers : DefAt K "thread_numbers" s_thread_numbers) (D_numbers_order : DefAt K "numbers_order" s_numbers_order) (D_are_by_turns : DefAt K "are_by_turns" s_are_by_turns) (D__law_source : DefAt K "_law_source" s__law_source) (D__law_pick : DefAt K "_law_pick" s__law_pick) (D__law_of : DefAt K "_law_of" s__law_of) (D__law_mixed : DefAt K "_law_mixed" s__law_mixed) (D__law_plate : DefAt K "_law_plate" s__law_plate) (D__law_low : DefAt K "_law_low" s__law_low) (D__law_ring : DefAt K "_law_ring" s__law_ring) (D__law_undone : DefAt K "_law_undone" s__law_undone) (D__law_drawn : DefAt K "_law_drawn" s__law_drawn) (D__law_steps : DefAt K "_law_steps" s__law_steps) (D__law_digits : DefAt K "_law_digits" s__law_digits) (D__law_sum : DefAt K "_law_sum" s__law_sum) (D_law : DefAt K "law" s_law) (z_abs : PySem.W.nsIn K mainGlobals "abs" = some none) (z_dict : PySem.W.nsIn K mainGlobals "dict" = some none) (z_enumerate : PySem.W.nsIn K mainGlobals "enumerate" = some none) (z_int : PySem.W.nsIn K mainGlobals "int" = some none) (z_len : PySem.W.nsIn K mainGlobals "len" = some none) (z_list : PySem.W.nsIn K mainGlobals "list" = some none) (z_max : PySem.W.nsIn K mainGlobals "max" = some none) (z_min : PySem.W.nsIn K mainGlobals "min" = some none) (z_range : PySem.W.nsIn K mainGlobals "range" = some none) (z_repr : PySem.W.nsIn K mainGlobals "repr" = some none) (z_sorted : PySem.W.nsIn K mainGlobals "sorted" = some none) (z_tuple : PySem.W.nsIn K mainGlobals "tuple" = some none) (z_zip : PySem.W.nsIn K mainGlobals "zip" = some none) :
    MoF W_law ∧ ∃ fd : FuncData, (∀ (s : Shared) (u : Value), BindsTo s fd ⟨[u], []⟩ [("script", u)]) ∧ ∀ base : Heap, K.In base → base.Ns mainGlobals mg → FnG l.prog w K mg base CX0 6 fa fd ["script"] (spF K W_law) := by
  have M : Modl K mg := ⟨h, X, G⟩
  refine law_mk (k := 5) M hfa ⟨rfl, by decide, by decide⟩ D_law sc_law (fun _ _ _ _ _ _ _ => rfl) fun base => ?_
  have C_end_places : Cal l.prog w K mg base 1 "end_places" ["plate"] W_end_places := ok_end_places M D_end_places (M.no z_dict) (M.no z_enumerate)
  have C_word_undone : Cal l.prog w K mg base 1 "word_undone" ["word"] W_word_undone := ok_word_undone M D_word_undone (M.no z_tuple)
  have C_ray_digits : Cal l.prog w K mg base 2 "ray_digits" ["plate", "ring", "at"] W_ray_digits := ok_ray_digits M D_ray_digits (M.no z_enumerate) (M.no z_len) C_end_places
  have C_digits_number : Cal l.prog w K mg base 1 "digits_number" ["base", "digits"] W_digits_number := ok_digits_number M D_digits_number
  have C_ray_number : Cal l.prog w K mg base 3 "ray_number" ["plate", "ring", "at"] W_ray_number := ok_ray_number M D_ray_number (M.no z_len) C_digits_number C_ray_digits
  have C_back_number : Cal l.prog w K mg base 4 "back_number" ["plate", "ring", "at"] W_back_number := ok_back_number M D_back_number (M.no z_len) C_ray_number C_word_undone
  have C_thread_numbers : Cal l.prog w K mg base 5 "thread_numbers" ["plate", "ring", "at"] W_thread_numbers := ok_thread_numbers M D_thread_numbers C_back_number C_ray_number
  have C_numbers_order : Cal l.prog w K mg base 1 "numbers_order" ["one", "other"] W_numbers_order := ok_numbers_order M D_numbers_order
  have C_are_by_turns : Cal l.prog w K mg base 2 "are_by_turns" ["plate", "pair", "late"] W_are_by_turns := ok_are_by_turns M D_are_by_turns (M.no z_len) (M.no z_sorted) C_end_places
  have C__law_source : Cal l.prog w K mg base 1 "_law_source" ["script"] W__law_source := ok__law_source M D__law_source (M.no z_abs) (M.no z_int)
  have C__law_pick : Cal l.prog w K mg base 1 "_law_pick" ["source", "many"] W__law_pick := ok__law_pick M D__law_pick (M.no z_int) (M.no z_len) (M.no z_max)
  have C__law_of : Cal l.prog w K mg base 2 "_law_of" ["source", "some"] W__law_of := ok__law_of M D__law_of (M.no z_len) C__law_pick
  have C__law_mixed : Cal l.prog w K mg base 2 "_law_mixed" ["source", "things"] W__law_mixed := ok__law_mixed M D__law_mixed (M.no z_len) (M.no z_list) (M.no z_range) C__law_pick
  have C__law_plate : Cal l.prog w K mg base 3 "_law_plate" ["source", "bands"] W__law_plate := ok__law_plate M D__law_plate (M.no z_range) (M.no z_tuple) C__law_mixed
  have C__law_low : Cal l.prog w K mg base 1 "_law_low" ["letters"] W__law_low := ok__law_low M D__law_low (M.no z_tuple)
  have C__law_ring : Cal l.prog w K mg base 2 "_law_ring" ["letters"] W__law_ring := ok__law_ring M D__law_ring (M.no z_len) (M.no z_min) (M.no z_range) C__law_low
  have C__law_undone : Cal l.prog w K mg base 1 "_law_undone" ["word"] W__law_undone := ok__law_undone M D__law_undone (M.no z_tuple)
  have C__law_drawn : Cal l.prog w K mg base 3 "_law_drawn" ["source", "bands", "most"] W__law_drawn := ok__law_drawn M D__law_drawn (M.no z_range) C__law_pick C__law_of C__law_ring
  have C__law_steps : Cal l.prog w K mg base 1 "_law_steps" ["plate", "one", "other"] W__law_steps := ok__law_steps M D__law_steps (M.no z_int) (M.no z_len)
  have C__law_digits : Cal l.prog w K mg base 2 "_law_digits" ["plate", "ring", "at", "many"] W__law_digits := ok__law_digits M D__law_digits (M.no z_int) (M.no z_len) (M.no z_range) C__law_steps
  have C__law_sum : Cal l.prog w K mg base 1 "_law_sum" ["base", "digits", "bottom"] W__law_sum := ok__law_sum M D__law_sum
  exact body_law (M.no z_int) (M.no z_len) (M.no z_range) (M.no z_repr) (M.no z_tuple) (M.no z_zip) C__law_source C__law_pick C__law_plate C__law_drawn C__law_ring C__law_undone C__law_digits C_back_number C_ray_number C__law_sum C_thread_numbers C__law_of C_numbers_order C__law_mixed C__law_steps C_are_by_turns
end
end K13

namespace K13
open PySem PySem.Spec PyProof.Rows L2 DL FG CV
/-! end_places: as end_places of K14 -/
section
variable {p : Ret → List Sl → Prop}
theorem w_end_places (P : List Int) (nd : P.Nodup) (h : p (.d (dictD (pk 0 P))) [.d (tupD P)]) : W_end_places [.d (tupD P)] p := by
  refine ⟨rfl, ?_⟩
  refine places_lc P 0 [] ?_
  refine ⟨pk 0 P, rfl, ?_⟩
  rw [show mergeD [] (pk 0 P) = pk 0 P from pk_merge P [] nd]
  exact h
end
/-! word_undone: as word_undone of K14 -/
section
variable {p : Ret → List Sl → Prop}
theorem w_word_undone (ns : List Int) (h : p (.d (tupD (und ns))) [.d (tupD ns)]) : W_word_undone [.d (tupD ns)] p :=
  ⟨rfl, lcW_mapE PyData.int (fun x => .int (-x)) ns.reverse (List.map_reverse ..).symm rfl (fun x _ q h => h) (by rw [e_undone]; exact h)⟩
end
/-! ray_digits: as ray_digits of K14 -/
section
variable {p : Ret → List Sl → Prop}
/-- one letter of the loop -/
theorem rd_body_14ray_digits {P : List Int} {s : Nat → Int} {m k : Nat} {acc : List Int} {a0 a1 a2 : Sl} (hk : k < m) (hm : m ≤ 300) (hs : s ((k + 1) % m) = s (k + 1)) (hx : s (k + 1) ∈ P) (hy : -(s k) ∈ P) (hP : P.length ≤ 100) (ha : acc.length < 1000) {c9 : Sl} (N : DL.Env → Prop) (En : EndsD)
    (b : Int) (hb : b = (P.length : Nat)) (hb0 : 0 < P.length)
    (h : ∀ c9, N [a0, a1, a2, .d (dictD (pk 0 P)), .d (.int b), .d (tupD ((List.range m).map s)), .own true (.lst ((acc ++ [RY.dig P s k]).map PyData.int)), .d (.int (k : Int)), .d (.int (s k)), c9]) :
    B_ray_digits_0 { En with nx := N, ct := N, bk := En.nx } [a0, a1, a2, .d (dictD (pk 0 P)), .d (.int b), .d (tupD ((List.range m).map s)), .own true (.lst (acc.map PyData.int)), .d (.int (k : Int)), .d (.int (s k)), c9] := by
  subst hb
  have e1 : (((((List.range m).map s).map PyData.int).length : Nat) : Int) = (m : Int) := by rw [List.length_map, List.length_map, List.length_range]
  have e2 : (((k : Nat) : Int) + 1).fmod (m : Int) = (((k + 1) % m : Nat) : Int) := by
    rw [fmod_nat]
    exact (Int.natCast_emod (k + 1) m).symm
  have hl : (k + 1) % m < m := Nat.mod_lt _ (by omega)
  have e3 : atI ((List.range m).map s) (((k + 1) % m : Nat) : Int) = some (s (k + 1)) := by
    refine atI_nat ?_
    rw [List.getElem?_map, List.getElem?_range hl]
    show some (s ((k + 1) % m)) = _
    rw [hs]
  refine ⟨by rw [e1]; omega, ?_⟩
  rw [e1, e2]
  refine wD_at e3 ?_
  refine ⟨rfl, _, rfl, get_at hx ?_⟩
  refine ⟨_, rfl, get_at hy ?_⟩
  refine ⟨by omega, ?_, ?_⟩
  · rw [List.length_map]; exact small1000 (Nat.le_of_lt ha)
  · have := h (.d (.int (s (k + 1))))
    rw [List.map_append] at this
    rw [fmod_nat]
    exact this
theorem rd_for_14ray_digits {P : List Int} {s : Nat → Int} {m : Nat} {a0 a1 a2 : Sl} (hm : m ≤ 300) (hs : ∀ k, k < m → s ((k + 1) % m) = s (k + 1)) (hx : ∀ k, s k ∈ P ∧ -(s k) ∈ P) (hP : P.length ≤ 100) (hb0 : 0 < P.length) (En : EndsD)
    (b : Int) (hb : b = (P.length : Nat)) (h : ∀ c7 c8 c9, En.nx [a0, a1, a2, .d (dictD (pk 0 P)), .d (.int b), .d (tupD ((List.range m).map s)), .own true (.lst (((List.range m).map (RY.dig P s)).map PyData.int)), c7, c8, c9]) :
    ∀ (n k : Nat) (c7 c8 c9 : Sl), k + n = m → forW (.tup [.nm 7, .nm 8]) B_ray_digits_0 En (enumD k (((List.range' k n).map s).map PyData.int)) [a0, a1, a2, .d (dictD (pk 0 P)), .d (.int b), .d (tupD ((List.range m).map s)), .own true (.lst (((List.range k).map (RY.dig P s)).map PyData.int)), c7, c8, c9]
  | 0, k, c7, c8, c9, e => by
    have : k = m := by omega
    subst this
    exact h _ _ _
  | n + 1, k, c7, c8, c9, e => by
    rw [range'_map_cons]
    refine rd_body_14ray_digits (s := s) (by omega) hm (hs k (by omega)) (hx _).1 (hx _).2 hP (by rw [List.length_map, List.length_range]; omega) _ En b hb hb0 fun c9 => ?_
    have := rd_for_14ray_digits hm hs hx hP hb0 En b hb h n (k + 1) (.d (.int (k : Int))) (.d (.int (s k))) c9 (by omega)
    rw [List.range_succ, List.map_append] at this
    exact this
theorem w_ray_digits {P R : List Int} {a : Nat} (oP : OkP P) (oR : OkR P R) (ha : a ≤ R.length) (h : p (.d (lstD ((List.range R.length).map (RY.dig P (RY.fw R a))))) [.d (tupD P), .d (tupD R), .d (.int a)]) : W_ray_digits [.d (tupD P), .d (tupD R), .d (.int a)] p := by
  have l0 : (R.map PyData.int).length = R.length := List.length_map _
  have e0 : R.length ≤ 300 := oR.most
  have hf := oR.mem
  refine ⟨rfl, ?_⟩
  refine i_seq ⟨rfl, w_end_places P oP.nd ?_⟩
  refine n_seq ?_
  refine ⟨Nat.le_trans (Nat.add_le_add (cutD_le _ _ _) (cutD_le _ _ _)) (by rw [l0]; exact sz (by omega)), ?_⟩
  rw [line_eq ha]
  refine n_seq ?_
  refine ⟨Nat.zero_le _, ?_⟩
  refine n_seq ?_
  have hn : 0 < R.length := List.length_pos_iff.mpr oR.ne
  have hs : ∀ k, k < R.length → RY.fw R a ((k + 1) % R.length) = RY.fw R a (k + 1) := fun k hk => by
    unfold RY.fw
    rw [Nat.add_mod_mod]
  have := rd_for_14ray_digits (a0 := .d (tupD P)) (a1 := .d (tupD R)) (a2 := .d (.int a)) oR.most hs (fun k => hf _ (RY.fw_mem oR.ne a k)) oP.most (by have := oP.two; omega) { nx := S_ray_digits_4 (fnE 3 p), rt := (fnE 3 p).rt, bk := (fnE 3 p).bk, ct := (fnE 3 p).ct } (((P.map PyData.int).length : Nat) : Int) (by rw [List.length_map]) (fun c7 c8 c9 => h) R.length 0 .un .un .un (by omega)
  rw [← List.range_eq_range'] at this
  exact this
end
/-! digits_number: as digits_number of K14 -/
section
variable {p : Ret → List Sl → Prop}
theorem w_digits_number {b : Int} (x : Nat → Int) (m : Nat) (hb : -1000 ≤ b ∧ b ≤ 1000) (h : p (.d (.tuple [.int (RY.V b x m), .int (b ^ m - 1)])) [.d (.int b), .d (lstD ((List.range m).map x))]) :
    W_digits_number [.d (.int b), .d (lstD ((List.range m).map x))] p := by
  refine ⟨rfl, sz (by show 2 ≤ 1000; omega), ?_⟩
  have hx : ((List.range m).map x).map PyData.int = (List.range m).map fun i => PyData.int (x i) := by rw [List.map_map]; rfl
  show forW (.nm 4) B_digits_number_0 _ (((List.range m).map x).map PyData.int) _
  rw [hx]
  refine forW_ind (fun (i : Nat) => PyData.int (x i)) (fun r ρ => ∃ i c, r = (List.range m).drop i ∧ i ≤ m ∧ ρ = [.d (.int b), .d (lstD ((List.range m).map x)), .d (.int (RY.V b x i)), .d (.int (b ^ i)), c]) (fun j r ρ N hJ hN => ?_) (fun ρ hJ => ?_) _ _ ⟨0, .un, rfl, Nat.zero_le _, ?_⟩
  · obtain ⟨i, c, hr, hi, rfl⟩ := hJ
    obtain ⟨rfl, hr, hlt⟩ := range_drop hr
    refine ⟨.inl (.inr ⟨by omega, by omega⟩), .inl (.inr ⟨by omega, by omega⟩), ?_⟩
    refine hN _ ⟨j + 1, .d (.int (x j)), hr, by omega, ?_⟩
    rw [Int.pow_succ]; rfl
  · obtain ⟨i, c, hr, hi, rfl⟩ := hJ
    have : i = m := by have := range_done hr; omega
    subst this
    exact ⟨sz (by show 2 ≤ 1000; omega), h⟩
  · rw [Int.pow_zero]; rfl
end
/-! ray_number: as ray_number of K14 -/
section
variable {p : Ret → List Sl → Prop}
/-- one letter of the loop -/
theorem rd_body_14ray_number {P : List Int} {s : Nat → Int} {m k : Nat} {acc : List Int} {a0 a1 a2 : Sl} (hk : k < m) (hm : m ≤ 300) (hs : s ((k + 1) % m) = s (k + 1)) (hx : s (k + 1) ∈ P) (hy : -(s k) ∈ P) (hP : P.length ≤ 100) (ha : acc.length < 1000) {c9 : Sl} (N : DL.Env → Prop) (En : EndsD)
    (b : Int) (hb : b = (P.length : Nat)) (hb0 : 0 < P.length)
    (h : ∀ c9, N [a0, a1, a2, .d (dictD (pk 0 P)), .d (.int b), .d (tupD ((List.range m).map s)), .own true (.lst ((acc ++ [RY.dig P s k]).map PyData.int)), .d (.int (k : Int)), .d (.int (s k)), c9]) :
    B_ray_digits_0 { En with nx := N, ct := N, bk := En.nx } [a0, a1, a2, .d (dictD (pk 0 P)), .d (.int b), .d (tupD ((List.range m).map s)), .own true (.lst (acc.map PyData.int)), .d (.int (k : Int)), .d (.int (s k)), c9] := by
  subst hb
  have e1 : (((((List.range m).map s).map PyData.int).length : Nat) : Int) = (m : Int) := by rw [List.length_map, List.length_map, List.length_range]
  have e2 : (((k : Nat) : Int) + 1).fmod (m : Int) = (((k + 1) % m : Nat) : Int) := by
    rw [fmod_nat]
    exact (Int.natCast_emod (k + 1) m).symm
  have hl : (k + 1) % m < m := Nat.mod_lt _ (by omega)
  have e3 : atI ((List.range m).map s) (((k + 1) % m : Nat) : Int) = some (s (k + 1)) := by
    refine atI_nat ?_
    rw [List.getElem?_map, List.getElem?_range hl]
    show some (s ((k + 1) % m)) = _
    rw [hs]
  refine ⟨by rw [e1]; omega, ?_⟩
  rw [e1, e2]
  refine wD_at e3 ?_
  refine ⟨rfl, _, rfl, get_at hx ?_⟩
  refine ⟨_, rfl, get_at hy ?_⟩
  refine ⟨by omega, ?_, ?_⟩
  · rw [List.length_map]; exact small1000 (Nat.le_of_lt ha)
  · have := h (.d (.int (s (k + 1))))
    rw [List.map_append] at this
    rw [fmod_nat]
    exact this
theorem rd_for_14ray_number {P : List Int} {s : Nat → Int} {m : Nat} {a0 a1 a2 : Sl} (hm : m ≤ 300) (hs : ∀ k, k < m → s ((k + 1) % m) = s (k + 1)) (hx : ∀ k, s k ∈ P ∧ -(s k) ∈ P) (hP : P.length ≤ 100) (hb0 : 0 < P.length) (En : EndsD)
    (b : Int) (hb : b = (P.length : Nat)) (h : ∀ c7 c8 c9, En.nx [a0, a1, a2, .d (dictD (pk 0 P)), .d (.int b), .d (tupD ((List.range m).map s)), .own true (.lst (((List.range m).map (RY.dig P s)).map PyData.int)), c7, c8, c9]) :
    ∀ (n k : Nat) (c7 c8 c9 : Sl), k + n = m → forW (.tup [.nm 7, .nm 8]) B_ray_digits_0 En (enumD k (((List.range' k n).map s).map PyData.int)) [a0, a1, a2, .d (dictD (pk 0 P)), .d (.int b), .d (tupD ((List.range m).map s)), .own true (.lst (((List.range k).map (RY.dig P s)).map PyData.int)), c7, c8, c9]
  | 0, k, c7, c8, c9, e => by
    have : k = m := by omega
    subst this
    exact h _ _ _
  | n + 1, k, c7, c8, c9, e => by
    rw [range'_map_cons]
    refine rd_body_14ray_number (s := s) (by omega) hm (hs k (by omega)) (hx _).1 (hx _).2 hP (by rw [List.length_map, List.length_range]; omega) _ En b hb hb0 fun c9 => ?_
    have := rd_for_14ray_number hm hs hx hP hb0 En b hb h n (k + 1) (.d (.int (k : Int))) (.d (.int (s k))) c9 (by omega)
    rw [List.range_succ, List.map_append] at this
    exact this
theorem w_ray_number {P R : List Int} {a : Nat} (oP : OkP P) (oR : OkR P R) (ha : a ≤ R.length) (h : p (.d (numD P R a)) [.d (tupD P), .d (tupD R), .d (.int a)]) : W_ray_number [.d (tupD P), .d (tupD R), .d (.int a)] p := by
  refine ⟨rfl, rfl, w_ray_digits oP oR ha ⟨rfl, ?_⟩⟩
  have e : (((P.map PyData.int).length : Nat) : Int) = (P.length : Nat) := by rw [List.length_map]
  have := oP.most
  refine w_digits_number _ R.length (by omega) ?_
  rw [e]
  exact h
end
/-! back_number: as back_number of K14 -/
section
variable {p : Ret → List Sl → Prop}
/-- one letter of the loop -/
theorem rd_body_14back_number {P : List Int} {s : Nat → Int} {m k : Nat} {acc : List Int} {a0 a1 a2 : Sl} (hk : k < m) (hm : m ≤ 300) (hs : s ((k + 1) % m) = s (k + 1)) (hx : s (k + 1) ∈ P) (hy : -(s k) ∈ P) (hP : P.length ≤ 100) (ha : acc.length < 1000) {c9 : Sl} (N : DL.Env → Prop) (En : EndsD)
    (b : Int) (hb : b = (P.length : Nat)) (hb0 : 0 < P.length)
    (h : ∀ c9, N [a0, a1, a2, .d (dictD (pk 0 P)), .d (.int b), .d (tupD ((List.range m).map s)), .own true (.lst ((acc ++ [RY.dig P s k]).map PyData.int)), .d (.int (k : Int)), .d (.int (s k)), c9]) :
    B_ray_digits_0 { En with nx := N, ct := N, bk := En.nx } [a0, a1, a2, .d (dictD (pk 0 P)), .d (.int b), .d (tupD ((List.range m).map s)), .own true (.lst (acc.map PyData.int)), .d (.int (k : Int)), .d (.int (s k)), c9] := by
  subst hb
  have e1 : (((((List.range m).map s).map PyData.int).length : Nat) : Int) = (m : Int) := by rw [List.length_map, List.length_map, List.length_range]
  have e2 : (((k : Nat) : Int) + 1).fmod (m : Int) = (((k + 1) % m : Nat) : Int) := by
    rw [fmod_nat]
    exact (Int.natCast_emod (k + 1) m).symm
  have hl : (k + 1) % m < m := Nat.mod_lt _ (by omega)
  have e3 : atI ((List.range m).map s) (((k + 1) % m : Nat) : Int) = some (s (k + 1)) := by
    refine atI_nat ?_
    rw [List.getElem?_map, List.getElem?_range hl]
    show some (s ((k + 1) % m)) = _
    rw [hs]
  refine ⟨by rw [e1]; omega, ?_⟩
  rw [e1, e2]
  refine wD_at e3 ?_
  refine ⟨rfl, _, rfl, get_at hx ?_⟩
  refine ⟨_, rfl, get_at hy ?_⟩
  refine ⟨by omega, ?_, ?_⟩
  · rw [List.length_map]; exact small1000 (Nat.le_of_lt ha)
  · have := h (.d (.int (s (k + 1))))
    rw [List.map_append] at this
    rw [fmod_nat]
    exact this
theorem rd_for_14back_number {P : List Int} {s : Nat → Int} {m : Nat} {a0 a1 a2 : Sl} (hm : m ≤ 300) (hs : ∀ k, k < m → s ((k + 1) % m) = s (k + 1)) (hx : ∀ k, s k ∈ P ∧ -(s k) ∈ P) (hP : P.length ≤ 100) (hb0 : 0 < P.length) (En : EndsD)
    (b : Int) (hb : b = (P.length : Nat)) (h : ∀ c7 c8 c9, En.nx [a0, a1, a2, .d (dictD (pk 0 P)), .d (.int b), .d (tupD ((List.range m).map s)), .own true (.lst (((List.range m).map (RY.dig P s)).map PyData.int)), c7, c8, c9]) :
    ∀ (n k : Nat) (c7 c8 c9 : Sl), k + n = m → forW (.tup [.nm 7, .nm 8]) B_ray_digits_0 En (enumD k (((List.range' k n).map s).map PyData.int)) [a0, a1, a2, .d (dictD (pk 0 P)), .d (.int b), .d (tupD ((List.range m).map s)), .own true (.lst (((List.range k).map (RY.dig P s)).map PyData.int)), c7, c8, c9]
  | 0, k, c7, c8, c9, e => by
    have : k = m := by omega
    subst this
    exact h _ _ _
  | n + 1, k, c7, c8, c9, e => by
    rw [range'_map_cons]
    refine rd_body_14back_number (s := s) (by omega) hm (hs k (by omega)) (hx _).1 (hx _).2 hP (by rw [List.length_map, List.length_range]; omega) _ En b hb hb0 fun c9 => ?_
    have := rd_for_14back_number hm hs hx hP hb0 En b hb h n (k + 1) (.d (.int (k : Int))) (.d (.int (s k))) c9 (by omega)
    rw [List.range_succ, List.map_append] at this
    exact this
theorem w_back_number {P R : List Int} {a : Nat} (oP : OkP P) (oR : OkR P R) (ha : a < R.length) (h : p (.d (backD P R a)) [.d (tupD P), .d (tupD R), .d (.int a)]) : W_back_number [.d (tupD P), .d (tupD R), .d (.int a)] p := by
  refine ⟨rfl, rfl, w_word_undone R ⟨rfl, ?_⟩⟩
  have e : (((R.map PyData.int).length : Nat) : Int) - 1 - (a : Int) = ((R.length - 1 - a : Nat) : Int) := by rw [List.length_map]; omega
  rw [e]
  exact w_ray_number oP oR.und (by rw [und_len]; omega) h
end
/-! thread_numbers: as thread_numbers of K14 -/
section
variable {p : Ret → List Sl → Prop}
/-- one letter of the loop -/
theorem rd_body_14thread_numbers {P : List Int} {s : Nat → Int} {m k : Nat} {acc : List Int} {a0 a1 a2 : Sl} (hk : k < m) (hm : m ≤ 300) (hs : s ((k + 1) % m) = s (k + 1)) (hx : s (k + 1) ∈ P) (hy : -(s k) ∈ P) (hP : P.length ≤ 100) (ha : acc.length < 1000) {c9 : Sl} (N : DL.Env → Prop) (En : EndsD)
    (b : Int) (hb : b = (P.length : Nat)) (hb0 : 0 < P.length)
    (h : ∀ c9, N [a0, a1, a2, .d (dictD (pk 0 P)), .d (.int b), .d (tupD ((List.range m).map s)), .own true (.lst ((acc ++ [RY.dig P s k]).map PyData.int)), .d (.int (k : Int)), .d (.int (s k)), c9]) :
    B_ray_digits_0 { En with nx := N, ct := N, bk := En.nx } [a0, a1, a2, .d (dictD (pk 0 P)), .d (.int b), .d (tupD ((List.range m).map s)), .own true (.lst (acc.map PyData.int)), .d (.int (k : Int)), .d (.int (s k)), c9] := by
  subst hb
  have e1 : (((((List.range m).map s).map PyData.int).length : Nat) : Int) = (m : Int) := by rw [List.length_map, List.length_map, List.length_range]
  have e2 : (((k : Nat) : Int) + 1).fmod (m : Int) = (((k + 1) % m : Nat) : Int) := by
    rw [fmod_nat]
    exact (Int.natCast_emod (k + 1) m).symm
  have hl : (k + 1) % m < m := Nat.mod_lt _ (by omega)
  have e3 : atI ((List.range m).map s) (((k + 1) % m : Nat) : Int) = some (s (k + 1)) := by
    refine atI_nat ?_
    rw [List.getElem?_map, List.getElem?_range hl]
    show some (s ((k + 1) % m)) = _
    rw [hs]
  refine ⟨by rw [e1]; omega, ?_⟩
  rw [e1, e2]
  refine wD_at e3 ?_
  refine ⟨rfl, _, rfl, get_at hx ?_⟩
  refine ⟨_, rfl, get_at hy ?_⟩
  refine ⟨by omega, ?_, ?_⟩
  · rw [List.length_map]; exact small1000 (Nat.le_of_lt ha)
  · have := h (.d (.int (s (k + 1))))
    rw [List.map_append] at this
    rw [fmod_nat]
    exact this
theorem rd_for_14thread_numbers {P : List Int} {s : Nat → Int} {m : Nat} {a0 a1 a2 : Sl} (hm : m ≤ 300) (hs : ∀ k, k < m → s ((k + 1) % m) = s (k + 1)) (hx : ∀ k, s k ∈ P ∧ -(s k) ∈ P) (hP : P.length ≤ 100) (hb0 : 0 < P.length) (En : EndsD)
    (b : Int) (hb : b = (P.length : Nat)) (h : ∀ c7 c8 c9, En.nx [a0, a1, a2, .d (dictD (pk 0 P)), .d (.int b), .d (tupD ((List.range m).map s)), .own true (.lst (((List.range m).map (RY.dig P s)).map PyData.int)), c7, c8, c9]) :
    ∀ (n k : Nat) (c7 c8 c9 : Sl), k + n = m → forW (.tup [.nm 7, .nm 8]) B_ray_digits_0 En (enumD k (((List.range' k n).map s).map PyData.int)) [a0, a1, a2, .d (dictD (pk 0 P)), .d (.int b), .d (tupD ((List.range m).map s)), .own true (.lst (((List.range k).map (RY.dig P s)).map PyData.int)), c7, c8, c9]
  | 0, k, c7, c8, c9, e => by
    have : k = m := by omega
    subst this
    exact h _ _ _
  | n + 1, k, c7, c8, c9, e => by
    rw [range'_map_cons]
    refine rd_body_14thread_numbers (s := s) (by omega) hm (hs k (by omega)) (hx _).1 (hx _).2 hP (by rw [List.length_map, List.length_range]; omega) _ En b hb hb0 fun c9 => ?_
    have := rd_for_14thread_numbers hm hs hx hP hb0 En b hb h n (k + 1) (.d (.int (k : Int))) (.d (.int (s k))) c9 (by omega)
    rw [List.range_succ, List.map_append] at this
    exact this
theorem w_thread_numbers {P R : List Int} {a : Nat} (oP : OkP P) (oR : OkR P R) (ha : a < R.length) (h : p (.d (if 0 < R[a] then .tuple [numD P R a, backD P R a] else .tuple [backD P R a, numD P R a])) [.d (tupD P), .d (tupD R), .d (.int a)]) :
    W_thread_numbers [.d (tupD P), .d (tupD R), .d (.int a)] p := by
  refine ⟨rfl, i_seq ⟨rfl, w_ray_number oP oR (by omega) ⟨rfl, w_back_number oP oR ha ⟨sz (by show 2 ≤ 1000; omega), ?_⟩⟩⟩⟩
  refine n_last (wD_at (atI_at R a ha) ?_)
  refine iteD (fun c => ?_) (fun c => ?_)
  · rw [if_pos c] at h; exact h
  · rw [if_neg c] at h; exact h
end
/-! numbers_order: as numbers_order of K14 -/
section
variable {p : Ret → List Sl → Prop}
theorem w_numbers_order (a b c d : Int) (hd : mulOk a d) (hb : mulOk c b) (h : p (.d (.int (RY.sgn (a * d - c * b)))) [.d (.tuple [.int a, .int b]), .d (.tuple [.int c, .int d])]) : W_numbers_order [.d (.tuple [.int a, .int b]), .d (.tuple [.int c, .int d])] p := by
  exact ⟨rfl, ⟨hd, hb, h⟩⟩
end
/-! are_by_turns: as are_by_turns of K14 -/
section
variable {p : Ret → List Sl → Prop}
theorem w_are_by_turns' {P L : List Int} {a c : Int} (oP : OkP P) (m1 : a ∈ P) (m2 : c ∈ P) (mL : ∀ x ∈ L, x ∈ P) (h : p (.d (.bool (decide (((L.filter (btw P a c)).length : Int) = 1)))) [.d (tupD P), .d (tupD [a, c]), .d (tupD L)]) :
    W_are_by_turns [.d (tupD P), .d (tupD [a, c]), .d (tupD L)] p := by
  refine ⟨rfl, rfl, w_end_places P oP.nd ?_⟩
  refine ⟨_, rfl, get_at m1 ?_⟩
  refine ⟨_, rfl, get_at m2 ?_⟩
  refine ⟨[RY.at_ P a, RY.at_ P c], rfl, fun ns h1 h2 => ?_⟩
  obtain ⟨lo, hi, e1, e2, e3⟩ : ∃ lo hi : Int, ns = [lo, hi] ∧ min (RY.at_ P a) (RY.at_ P c) = lo ∧ max (RY.at_ P a) (RY.at_ P c) = hi := ⟨_, _, perm_two h1 h2, rfl, rfl⟩
  subst e1
  have eb : btw P a c = fun x => decide (lo < RY.at_ P x) && decide (RY.at_ P x < hi) := by
    funext x
    unfold btw
    rw [e2, e3]
  rw [eb] at h
  clear eb e2 e3 h1 h2
  show sRet (e2 wEq (eB wLen (aCons (eLc (iAny (eV 2)) (.nm 6) (tB' (eCh wLt wLt (eV 4) (eDGet (eV 3) (eV 6)) (eV 5))) (eV 6) [6]) aNil)) (eK (.int 1))) (fnE 3 p) [.d (tupD P), .d (tupD [a, c]), .d (tupD L), .d (dictD (pk 0 P)), .d (.int lo), .d (.int hi), .un]
  refine lcW_filterE (i := 6) PyData.int PyData.int (fun x => decide (lo < RY.at_ P x) && decide (RY.at_ P x < hi)) L rfl rfl (fun x hx q hq => ?_) (fun x hx _ q hq => by exact hq) ?_
  · refine ⟨_, rfl, get_at (mL x hx) ?_⟩
    refine iteD (fun c1 => ?_) fun c1 => ?_
    · rw [decide_eq_true c1, Bool.true_and] at hq
      exact hq
    · rw [decide_eq_false c1, Bool.false_and] at hq
      exact hq
  · rw [← List.length_map (f := PyData.int)] at h
    exact h
theorem w_are_by_turns {P : List Int} {a c e f : Int} (oP : OkP P) (m : a ∈ P ∧ c ∈ P ∧ e ∈ P ∧ f ∈ P) (h : p (.d (.bool (btw P a c e != btw P a c f))) [.d (tupD P), .d (tupD [a, c]), .d (tupD [e, f])]) :
    W_are_by_turns [.d (tupD P), .d (tupD [a, c]), .d (tupD [e, f])] p := by
  obtain ⟨m1, m2, m3, m4⟩ := m
  refine w_are_by_turns' oP m1 m2 (fun x hx => ?_) (by rw [two_one]; exact h)
  rcases List.mem_cons.mp hx with rfl | hx
  · exact m3
  · rcases List.mem_cons.mp hx with rfl | hx
    · exact m4
    · cases hx
end
/-! _law_of: as _law_of of K14 -/
section
variable {p : Ret → List Sl → Prop}
theorem w__law_of (xs : List D) (hn : xs ≠ []) (hl : xs.length ≤ 1000) (h : ∀ x ∈ xs, p (.d x) [.own false .src, .d (.list xs)]) : W__law_of [.own false .src, .d (.list xs)] p := by
  have hp := List.length_pos_iff.mpr hn
  refine ⟨rfl, rfl, _, rfl, by omega, fun r h1 h2 => ?_⟩
  have e : ∃ j : Nat, r = (j : Int) ∧ j < xs.length := ⟨r.toNat, by omega, by omega⟩
  obtain ⟨j, rfl, hj⟩ := e
  show wD (atI xs (j : Int)) _
  rw [atI_at xs j hj]
  exact h _ (List.getElem_mem hj)
end
/-! _law_mixed: as _law_mixed of K14 -/
section
variable {p : Ret → List Sl → Prop}
theorem mixed_lc_14mixed {a1 : Sl} {fin : List D → DL.Env → Prop} : ∀ (ds : List D) (rest acc : List Int), rest.length ≤ 1000 → ds.length = rest.length →
    (∀ ys : List Int, ys.Perm rest → fin ((acc ++ ys).map PyData.int) [.own false .src, a1, .own true (.lst []), .un]) →
    lcW (.nm 3) tYesD (eM 2 wPopAt (aCons (eCall W__law_pick (aCons (eV 0) (aCons (eB wLen (aCons (eV 2) aNil)) aNil))) aNil)) [3] fin ds (acc.map PyData.int) [.own false .src, a1, .own true (.lst (rest.map PyData.int)), .un]
  | [], rest, acc, hl, e, h => by
    have : rest = [] := List.eq_nil_of_length_eq_zero e.symm
    subst this
    have := h [] (List.Perm.refl _)
    rw [List.append_nil] at this
    exact this
  | d :: ds, rest, acc, hl, e, h => by
    rw [List.length_cons] at e
    have el : (((rest.map PyData.int).length : Nat) : Int) = (rest.length : Nat) := by rw [List.length_map]
    refine ⟨rfl, rfl, (((rest.map PyData.int).length : Nat) : Int), rfl, by rw [el]; omega, fun r h1 h2 => ?_⟩
    rw [el] at h2
    obtain ⟨j, rfl, hj⟩ : ∃ j : Nat, r = (j : Int) ∧ j < rest.length := ⟨r.toNat, by omega, by omega⟩
    refine ⟨by omega, by omega, ?_⟩
    show (match seqIndex? (j : Int) (rest.map PyData.int).length with
      | some k => (match (rest.map PyData.int)[k]? with
        | some d => _
        | none => False)
      | none => False)
    rw [List.length_map, seqI hj]
    show (match (rest.map PyData.int)[j]? with
        | some d => _
        | none => False)
    rw [List.getElem?_map, List.getElem?_eq_getElem hj]
    have := mixed_lc_14mixed (a1 := a1) (fin := fin) ds (rest.eraseIdx j) (acc ++ [rest[j]]) (by rw [List.length_eraseIdx_of_lt hj]; omega) (by rw [List.length_eraseIdx_of_lt hj]; omega) fun ys hy => by
      rw [List.append_assoc]
      exact h _ (perm_erase hj hy)
    rw [List.map_append, ← map_erase] at this
    exact this
theorem w__law_mixedL (xs : List Int) (hl : xs.length ≤ 1000) (h : ∀ ys : List Int, ys.Perm xs → p (.d (lstD ys)) [.own false .src, .d (lstD xs)]) : W__law_mixed [.own false .src, .d (lstD xs)] p := by
  have el : (((xs.map PyData.int).length : Nat) : Int) = (xs.length : Nat) := by rw [List.length_map]
  refine ⟨rfl, i_seq ?_⟩
  refine n_last ⟨⟨by decide, by decide, by rw [el]; omega, by rw [el]; omega⟩, by rw [el]; exact sz (by omega), ?_⟩
  exact mixed_lc_14mixed (a1 := .d (lstD xs)) _ xs [] hl (by rw [rangeD_length, el]; omega) h
theorem w__law_mixedT (xs : List Int) (hl : xs.length ≤ 1000) (h : ∀ ys : List Int, ys.Perm xs → p (.d (lstD ys)) [.own false .src, .d (tupD xs)]) : W__law_mixed [.own false .src, .d (tupD xs)] p := by
  have el : (((xs.map PyData.int).length : Nat) : Int) = (xs.length : Nat) := by rw [List.length_map]
  refine ⟨rfl, i_seq ?_⟩
  refine n_last ⟨⟨by decide, by decide, by rw [el]; omega, by rw [el]; omega⟩, by rw [el]; exact sz (by omega), ?_⟩
  exact mixed_lc_14mixed (a1 := .d (tupD xs)) _ xs [] hl (by rw [rangeD_length, el]; omega) h
end
/-! _law_plate: as _law_plate of K12 -/
section
variable {p : Ret → List Sl → Prop}
theorem mixed_lc_12plate {a1 : Sl} {fin : List D → DL.Env → Prop} : ∀ (ds : List D) (rest acc : List Int), rest.length ≤ 1000 → ds.length = rest.length →
    (∀ ys : List Int, ys.Perm rest → fin ((acc ++ ys).map PyData.int) [.own false .src, a1, .own true (.lst []), .un]) →
    lcW (.nm 3) tYesD (eM 2 wPopAt (aCons (eCall W__law_pick (aCons (eV 0) (aCons (eB wLen (aCons (eV 2) aNil)) aNil))) aNil)) [3] fin ds (acc.map PyData.int) [.own false .src, a1, .own true (.lst (rest.map PyData.int)), .un]
  | [], rest, acc, hl, e, h => by
    have : rest = [] := List.eq_nil_of_length_eq_zero e.symm
    subst this
    have := h [] (List.Perm.refl _)
    rw [List.append_nil] at this
    exact this
  | d :: ds, rest, acc, hl, e, h => by
    rw [List.length_cons] at e
    have el : (((rest.map PyData.int).length : Nat) : Int) = (rest.length : Nat) := by rw [List.length_map]
    refine ⟨rfl, rfl, (((rest.map PyData.int).length : Nat) : Int), rfl, by rw [el]; omega, fun r h1 h2 => ?_⟩
    rw [el] at h2
    obtain ⟨j, rfl, hj⟩ : ∃ j : Nat, r = (j : Int) ∧ j < rest.length := ⟨r.toNat, by omega, by omega⟩
    refine ⟨by omega, by omega, ?_⟩
    show (match seqIndex? (j : Int) (rest.map PyData.int).length with
      | some k => (match (rest.map PyData.int)[k]? with
        | some d => _
        | none => False)
      | none => False)
    rw [List.length_map, seqI hj]
    show (match (rest.map PyData.int)[j]? with
        | some d => _
        | none => False)
    rw [List.getElem?_map, List.getElem?_eq_getElem hj]
    have := mixed_lc_12plate (a1 := a1) (fin := fin) ds (rest.eraseIdx j) (acc ++ [rest[j]]) (by rw [List.length_eraseIdx_of_lt hj]; omega) (by rw [List.length_eraseIdx_of_lt hj]; omega) fun ys hy => by
      rw [List.append_assoc]
      exact h _ (perm_erase hj hy)
    rw [List.map_append, ← map_erase] at this
    exact this
theorem w__law_plate (n : Nat) (hn : 1 ≤ n ∧ n ≤ 12) (h : ∀ P, OR.PlZ n P → p (.d (tupD P)) [.own false .src, .d (.int (n : Int))]) : W__law_plate [.own false .src, .d (.int (n : Int))] p := by
  have e2 : ((n : Int) + 1 - (0 - (n : Int))).toNat = 2 * n + 1 := by omega
  refine ⟨rfl, ⟨by omega, by omega, by omega, by omega⟩, by rw [e2]; exact sz (by omega), ?_⟩
  rw [e2]
  refine zl_lc (i := 2) n rfl (fun x q hq => hq) _ (fun x q hq => hq) ?_
  exact ⟨rfl, w__law_mixedL (zl n) (by rw [zl_len]; omega) fun P hP => h P (zl_plz hP)⟩
end
/-! _law_low: as _law_low of K12 -/
section
variable {p : Ret → List Sl → Prop}
theorem llow_body_12low (a : D) (N : DL.Env → Prop) (En : EndsD) (f : List Int) (x : Int) (hl : f.length < 1000) (h : N [.d a, .own true (.lst ((sr f x).map PyData.int)), .d (.int x)]) :
    B__law_low_0 { En with nx := N, ct := N, bk := En.nx } [.d a, .own true (.lst (f.map PyData.int)), .d (.int x)] := by
  have e0 : (0 : Int) - x = -x := Int.zero_sub x
  refine ⟨sz (by show 1 ≤ 1000; omega), ?_, okLI [0 - x], ?_⟩
  · show eqOk (.list (cutD (f.map PyData.int) (some (-1)) none))
    rw [cut_last]; exact okLI _
  · show if PyData.eqv (.list (cutD (f.map PyData.int) (some (-1)) none)) (.list ([0 - x].map PyData.int)) = true then _ else _
    rw [cut_last, eqv_lst, e0]
    refine iteD (fun e => ?_) fun e => ?_
    · have hl' : f.getLast? = some (-x) := by
        cases q : f.getLast? with
        | none => rw [q] at e; cases e
        | some y => rw [q] at e; have := List.cons.inj e; rw [this.1]
      have hne : f ≠ [] := fun e => by rw [e] at hl'; cases hl'
      have e1 : sr f x = f.dropLast := if_pos hl'
      rw [e1, List.map_dropLast] at h
      refine ⟨rfl, ?_⟩
      show (match (f.map PyData.int)[(f.map PyData.int).length - 1]? with
        | some d => N [.d a, .own true (.lst (f.map PyData.int).dropLast), .d (.int x)]
        | none => False)
      rw [← List.getLast?_eq_getElem?, List.getLast?_eq_some_getLast (by simpa using hne)]
      exact h
    · have e1 : sr f x = f ++ [x] := if_neg fun c => e (by rw [c]; rfl)
      refine ⟨rfl, ?_, ?_⟩
      · rw [List.length_map]; exact small1000 (Nat.le_of_lt hl)
      · rw [e1, List.map_append] at h; exact h
theorem llow_for_12low (a : D) (ns : List Int) (En : EndsD) (hl : ns.length ≤ 1000) (h : ∀ c, En.nx [.d a, .own true (.lst ((low ns).map PyData.int)), c]) : forW (.nm 2) B__law_low_0 En (ns.map PyData.int) [.d a, .own true (.lst []), .un] := by
  refine forW_ind PyData.int (fun r ρ => ∃ f c, ρ = [.d a, .own true (.lst (f.map PyData.int)), c] ∧ r.foldl sr f = low ns ∧ f.length + r.length ≤ 1000) (fun x r ρ N hJ hN => ?_) (fun ρ hJ => ?_) ns _ ⟨[], .un, rfl, rfl, by simpa using hl⟩
  · obtain ⟨f, c, rfl, e, hlen⟩ := hJ
    rw [List.length_cons] at hlen
    have := (sr_len f x).1
    exact llow_body_12low a N En f x (by omega) (hN _ ⟨sr f x, _, rfl, e, by omega⟩)
  · obtain ⟨f, c, rfl, e, _⟩ := hJ
    have e : f = low ns := e
    rw [e]; exact h c
theorem w__law_low (ns : List Int) (hl : ns.length ≤ 1000) (h : p (.d (tupD (low ns))) [.d (tupD ns)]) : W__law_low [.d (tupD ns)] p := ⟨rfl, Nat.zero_le _, llow_for_12low _ ns _ hl fun c => h⟩
theorem w__law_lowL (ns : List Int) (hl : ns.length ≤ 1000) (h : p (.d (tupD (low ns))) [.d (lstD ns)]) : W__law_low [.d (lstD ns)] p := ⟨rfl, Nat.zero_le _, llow_for_12low _ ns _ hl fun c => h⟩
end
/-! _law_ring: as _law_ring of K12 -/
section
variable {p : Ret → List Sl → Prop}
theorem llow_body_12ring (a : D) (N : DL.Env → Prop) (En : EndsD) (f : List Int) (x : Int) (hl : f.length < 1000) (h : N [.d a, .own true (.lst ((sr f x).map PyData.int)), .d (.int x)]) :
    B__law_low_0 { En with nx := N, ct := N, bk := En.nx } [.d a, .own true (.lst (f.map PyData.int)), .d (.int x)] := by
  have e0 : (0 : Int) - x = -x := Int.zero_sub x
  refine ⟨sz (by show 1 ≤ 1000; omega), ?_, okLI [0 - x], ?_⟩
  · show eqOk (.list (cutD (f.map PyData.int) (some (-1)) none))
    rw [cut_last]; exact okLI _
  · show if PyData.eqv (.list (cutD (f.map PyData.int) (some (-1)) none)) (.list ([0 - x].map PyData.int)) = true then _ else _
    rw [cut_last, eqv_lst, e0]
    refine iteD (fun e => ?_) fun e => ?_
    · have hl' : f.getLast? = some (-x) := by
        cases q : f.getLast? with
        | none => rw [q] at e; cases e
        | some y => rw [q] at e; have := List.cons.inj e; rw [this.1]
      have hne : f ≠ [] := fun e => by rw [e] at hl'; cases hl'
      have e1 : sr f x = f.dropLast := if_pos hl'
      rw [e1, List.map_dropLast] at h
      refine ⟨rfl, ?_⟩
      show (match (f.map PyData.int)[(f.map PyData.int).length - 1]? with
        | some d => N [.d a, .own true (.lst (f.map PyData.int).dropLast), .d (.int x)]
        | none => False)
      rw [← List.getLast?_eq_getElem?, List.getLast?_eq_some_getLast (by simpa using hne)]
      exact h
    · have e1 : sr f x = f ++ [x] := if_neg fun c => e (by rw [c]; rfl)
      refine ⟨rfl, ?_, ?_⟩
      · rw [List.length_map]; exact small1000 (Nat.le_of_lt hl)
      · rw [e1, List.map_append] at h; exact h
theorem llow_for_12ring (a : D) (ns : List Int) (En : EndsD) (hl : ns.length ≤ 1000) (h : ∀ c, En.nx [.d a, .own true (.lst ((low ns).map PyData.int)), c]) : forW (.nm 2) B__law_low_0 En (ns.map PyData.int) [.d a, .own true (.lst []), .un] := by
  refine forW_ind PyData.int (fun r ρ => ∃ f c, ρ = [.d a, .own true (.lst (f.map PyData.int)), c] ∧ r.foldl sr f = low ns ∧ f.length + r.length ≤ 1000) (fun x r ρ N hJ hN => ?_) (fun ρ hJ => ?_) ns _ ⟨[], .un, rfl, rfl, by simpa using hl⟩
  · obtain ⟨f, c, rfl, e, hlen⟩ := hJ
    rw [List.length_cons] at hlen
    have := (sr_len f x).1
    exact llow_body_12ring a N En f x (by omega) (hN _ ⟨sr f x, _, rfl, e, by omega⟩)
  · obtain ⟨f, c, rfl, e, _⟩ := hJ
    have e : f = low ns := e
    rw [e]; exact h c
theorem lring_while_12ring (c0 c2 : Sl) (ns : List Int) (En : EndsD) (hl : ns.length ≤ 1000) (h : En.nx [c0, .d (tupD (core ns)), c2]) :
    sWhile B__law_ring_0 B__law_ring_1 En [c0, .d (tupD ns), c2] := by
  refine sWh_ind (fun m ρ => ∃ w, ρ = [c0, .d (tupD w), c2] ∧ w.length = m ∧ core w = core ns) (fun m ρ N hJ hN => ?_) ⟨ns, rfl, rfl, rfl⟩
  obtain ⟨w, rfl, rfl, ec⟩ := hJ
  have stop : ¬ Canc w → En.nx [c0, .d (tupD w), c2] := fun c => by
    rw [core_stop c] at ec
    rw [ec]; exact h
  refine canc_if (ns := w) (fun x m e => ?_) (fun x y c n => ?_) stop
  · subst e
    refine ifEq (c := true) (by simp) ?_
    show N [c0, .d (.tuple (cutD ((x :: (m ++ [-x])).map PyData.int) (some 1) (some (-1)))), c2]
    rw [cut_inner]
    refine hN m.length _ (by simp; omega) ⟨m, ?_, rfl, ?_⟩
    · simp [tupD]
    · rw [← ec, core_step]
  · refine ifEq (c := false) (decide_eq_false (by omega)) (stop c)
theorem w__law_ring (ns : List Int) (hl : ns.length ≤ 1000) (h : p (.d (tupD (ring ns))) [.d (tupD ns)]) : W__law_ring [.d (tupD ns)] p := by
  have h1 := low_len ns
  have h2 := core_len (low ns)
  refine ⟨rfl, i_seq ⟨rfl, w__law_low ns hl ?_⟩⟩
  refine n_seq (lring_while_12ring _ .un (low ns) _ (by omega) ?_)
  exact n_last (CV.K12.ring_tail (c0 := .d (tupD ns)) _ (by omega) (fnE 1 p) fun ρ e => by
    show p _ (ρ.take 1)
    rw [e]; exact h)
theorem w__law_ringL (ns : List Int) (hl : ns.length ≤ 1000) (h : p (.d (tupD (ring ns))) [.d (lstD ns)]) : W__law_ring [.d (lstD ns)] p := by
  have h1 := low_len ns
  have h2 := core_len (low ns)
  refine ⟨rfl, i_seq ⟨rfl, w__law_lowL ns hl ?_⟩⟩
  refine n_seq (lring_while_12ring _ .un (low ns) _ (by omega) ?_)
  exact n_last (CV.K12.ring_tail (c0 := .d (lstD ns)) _ (by omega) (fnE 1 p) fun ρ e => by
    show p _ (ρ.take 1)
    rw [e]; exact h)
end
/-! _law_undone: as _law_undone of K14 -/
section
variable {p : Ret → List Sl → Prop}
theorem w__law_undoneL (ns : List Int) (h : p (.d (tupD (und ns))) [.d (lstD ns)]) : W__law_undone [.d (lstD ns)] p :=
  ⟨rfl, lcW_mapE PyData.int (fun x => .int (0 - x)) ns.reverse (List.map_reverse ..).symm rfl (fun x _ q h => h) (by rw [und_eq0]; exact h)⟩
end
/-! _law_drawn: as _law_drawn of K12 -/
section
variable {p : Ret → List Sl → Prop}
theorem llow_body_12drawn (a : D) (N : DL.Env → Prop) (En : EndsD) (f : List Int) (x : Int) (hl : f.length < 1000) (h : N [.d a, .own true (.lst ((sr f x).map PyData.int)), .d (.int x)]) :
    B__law_low_0 { En with nx := N, ct := N, bk := En.nx } [.d a, .own true (.lst (f.map PyData.int)), .d (.int x)] := by
  have e0 : (0 : Int) - x = -x := Int.zero_sub x
  refine ⟨sz (by show 1 ≤ 1000; omega), ?_, okLI [0 - x], ?_⟩
  · show eqOk (.list (cutD (f.map PyData.int) (some (-1)) none))
    rw [cut_last]; exact okLI _
  · show if PyData.eqv (.list (cutD (f.map PyData.int) (some (-1)) none)) (.list ([0 - x].map PyData.int)) = true then _ else _
    rw [cut_last, eqv_lst, e0]
    refine iteD (fun e => ?_) fun e => ?_
    · have hl' : f.getLast? = some (-x) := by
        cases q : f.getLast? with
        | none => rw [q] at e; cases e
        | some y => rw [q] at e; have := List.cons.inj e; rw [this.1]
      have hne : f ≠ [] := fun e => by rw [e] at hl'; cases hl'
      have e1 : sr f x = f.dropLast := if_pos hl'
      rw [e1, List.map_dropLast] at h
      refine ⟨rfl, ?_⟩
      show (match (f.map PyData.int)[(f.map PyData.int).length - 1]? with
        | some d => N [.d a, .own true (.lst (f.map PyData.int).dropLast), .d (.int x)]
        | none => False)
      rw [← List.getLast?_eq_getElem?, List.getLast?_eq_some_getLast (by simpa using hne)]
      exact h
    · have e1 : sr f x = f ++ [x] := if_neg fun c => e (by rw [c]; rfl)
      refine ⟨rfl, ?_, ?_⟩
      · rw [List.length_map]; exact small1000 (Nat.le_of_lt hl)
      · rw [e1, List.map_append] at h; exact h
theorem llow_for_12drawn (a : D) (ns : List Int) (En : EndsD) (hl : ns.length ≤ 1000) (h : ∀ c, En.nx [.d a, .own true (.lst ((low ns).map PyData.int)), c]) : forW (.nm 2) B__law_low_0 En (ns.map PyData.int) [.d a, .own true (.lst []), .un] := by
  refine forW_ind PyData.int (fun r ρ => ∃ f c, ρ = [.d a, .own true (.lst (f.map PyData.int)), c] ∧ r.foldl sr f = low ns ∧ f.length + r.length ≤ 1000) (fun x r ρ N hJ hN => ?_) (fun ρ hJ => ?_) ns _ ⟨[], .un, rfl, rfl, by simpa using hl⟩
  · obtain ⟨f, c, rfl, e, hlen⟩ := hJ
    rw [List.length_cons] at hlen
    have := (sr_len f x).1
    exact llow_body_12drawn a N En f x (by omega) (hN _ ⟨sr f x, _, rfl, e, by omega⟩)
  · obtain ⟨f, c, rfl, e, _⟩ := hJ
    have e : f = low ns := e
    rw [e]; exact h c
theorem lring_while_12drawn (c0 c2 : Sl) (ns : List Int) (En : EndsD) (hl : ns.length ≤ 1000) (h : En.nx [c0, .d (tupD (core ns)), c2]) :
    sWhile B__law_ring_0 B__law_ring_1 En [c0, .d (tupD ns), c2] := by
  refine sWh_ind (fun m ρ => ∃ w, ρ = [c0, .d (tupD w), c2] ∧ w.length = m ∧ core w = core ns) (fun m ρ N hJ hN => ?_) ⟨ns, rfl, rfl, rfl⟩
  obtain ⟨w, rfl, rfl, ec⟩ := hJ
  have stop : ¬ Canc w → En.nx [c0, .d (tupD w), c2] := fun c => by
    rw [core_stop c] at ec
    rw [ec]; exact h
  refine canc_if (ns := w) (fun x m e => ?_) (fun x y c n => ?_) stop
  · subst e
    refine ifEq (c := true) (by simp) ?_
    show N [c0, .d (.tuple (cutD ((x :: (m ++ [-x])).map PyData.int) (some 1) (some (-1)))), c2]
    rw [cut_inner]
    refine hN m.length _ (by simp; omega) ⟨m, ?_, rfl, ?_⟩
    · simp [tupD]
    · rw [← ec, core_step]
  · refine ifEq (c := false) (decide_eq_false (by omega)) (stop c)
theorem w__law_drawn (n most : Nat) (hn : 1 ≤ n ∧ n ≤ 100) (hm : 1 ≤ most ∧ most ≤ 100) (h : ∀ A, Rg n most A → p (.d (tupD A)) [.own false .src, .d (.int (n : Int)), .d (.int (most : Int))]) : W__law_drawn [.own false .src, .d (.int (n : Int)), .d (.int (most : Int))] p := by
  have e2 : ((n : Int) + 1 - (0 - (n : Int))).toNat = 2 * n + 1 := by omega
  refine ⟨rfl, i_seq ⟨Nat.zero_le _, ?_⟩⟩
  refine n_seq ⟨rfl, (most : Int), rfl, by omega, fun r h1 h2 => ?_⟩
  refine ⟨⟨by decide, by decide, by omega, by omega⟩, sz (by omega), ?_⟩
  rw [Int.sub_zero, rangeD_eq]
  refine forW_ind (i := 4) (t := B__law_drawn_0) (fun (i : Nat) => PyData.int (0 + (i : Int))) (fun rs ρ => ∃ (row : List Int) (c4 c5 : Sl), row.length + rs.length = (1 + r).toNat ∧ (∀ x ∈ row, x ≠ 0 ∧ x ≤ n ∧ -(n : Int) ≤ x) ∧ ρ = [.own false .src, .d (.int (n : Int)), .d (.int (most : Int)), .own true (.lst (row.map PyData.int)), c4, c5, .un]) (fun j rs ρ N hJ hN => ?_) (fun ρ hJ => ?_) _ _ ⟨[], .un, .un, by simp, (fun x hx => nomatch hx), rfl⟩
  · obtain ⟨row, c4, c5, hl, hm2, rfl⟩ := hJ
    rw [List.length_cons] at hl
    refine i_seq ⟨⟨by omega, by omega, by omega, by omega⟩, by rw [e2]; exact sz (by omega), ?_⟩
    rw [e2]
    refine nxt_lc (row := row) _ rfl ?_
    refine n_last ⟨rfl, rfl, w__law_of ((nxt n row).map PyData.int) (fun e => nxt_ne hn.1 row (List.map_eq_nil_iff.mp e)) ?_ fun x hx => ?_⟩
    · rw [List.length_map]
      have : (nxt n row).length ≤ 2 * n + 1 := Nat.le_trans (List.length_filter_le _ _) (by simp)
      omega
    · obtain ⟨y, hy, rfl⟩ := List.mem_map.mp hx
      have hy := (nxt_mem.mp hy).1
      refine ⟨?_, ?_⟩
      · rw [List.length_map]; exact small1000 (by omega)
      · have := hN [.own false .src, .d (.int (n : Int)), .d (.int (most : Int)), .own true (.lst ((row ++ [y]).map PyData.int)), .d (.int (0 + (j : Int))), .d (lstD (nxt n row)), .un] ⟨row ++ [y], _, _, by rw [List.length_append]; simp; omega, fun x hx => by
          rcases List.mem_append.mp hx with hx | hx
          · exact hm2 x hx
          · rw [List.mem_singleton] at hx; exact hx ▸ hy, rfl⟩
        rw [List.map_append] at this
        exact this
  · obtain ⟨row, c4, c5, hl, hm2, rfl⟩ := hJ
    rw [List.length_nil, Nat.add_zero] at hl
    have hrl := ring_len row
    show sSeq S__law_drawn_2 S__law_drawn_3 (fnE 3 p) [.own false .src, .d (.int (n : Int)), .d (.int (most : Int)), .d (lstD row), c4, c5, .un]
    refine i_seq ⟨rfl, w__law_ringL row (by omega) ?_⟩
    refine n_last ⟨Nat.zero_le _, okTI _, okTI [], ifEq (congrArg (!·) (eqv_tupD (ring row) [])) (iteN (fun c => ?_) fun c => ?_)⟩
    · exact h _ ⟨c, by omega, fun x hx => hm2 x (ring_sub hx), (ring_cyc row).1, (ring_cyc row).2⟩
    · exact ⟨sz (by show 1 ≤ 1000; omega), h _ (Rg.one hn.1 hm.1)⟩
end
/-! _law_steps: as _law_steps of K14 -/
section
variable {p : Ret → List Sl → Prop}
theorem w__law_steps {P : List Int} {a c : Int} (oP : OkP P) (ha : a ∈ P) (hc : c ∈ P) (h : p (.d (.int (RY.st P a c))) [.d (tupD P), .d (.int a), .d (.int c)]) : W__law_steps [.d (tupD P), .d (.int a), .d (.int c)] p := by
  have e1 : (((P.map PyData.int).length : Nat) : Int) = (P.length : Nat) := by rw [List.length_map]
  have := oP.two
  refine ⟨rfl, ⟨rfl, flat_all P⟩, P.idxOf c, .int c, first_get hc, first_eq c, first_min hc, ⟨rfl, flat_all P⟩, P.idxOf a, .int a, first_get ha, first_eq a, first_min ha, ?_⟩
  refine ⟨by rw [e1]; omega, ?_⟩
  rw [e1, fmod_nat]
  exact h
end
end K13

namespace K13
open PySem PySem.Spec PyProof.Rows L2 DL FG CV RZ
section
variable {p : Ret → List Sl → Prop}
theorem dg_body {P R : List Int} {a k : Nat} {acc : List Int} {c3 c6 c7 : Sl} (oP : OkP P) (oR : OkR P R) (hl : acc.length < 1000) (N : DL.Env → Prop) (En : EndsD)
    (h : ∀ c6 c7, N [.d (tupD P), .d (tupD R), .d (.int (a : Nat)), c3, .own true (.lst ((acc ++ [RY.dig P (RY.fw R a) k]).map PyData.int)), .d (.int (0 + (k : Int))), c6, c7]) :
    B__law_digits_0 { En with nx := N, ct := N, bk := En.nx } [.d (tupD P), .d (tupD R), .d (.int (a : Nat)), c3, .own true (.lst (acc.map PyData.int)), .d (.int (0 + (k : Int))), c6, c7] := by
  have l := List.length_pos_iff.mpr oR.ne
  have e1 : (((R.map PyData.int).length : Nat) : Int) = (R.length : Nat) := by rw [List.length_map]
  have f1 : ((a : Int) + (0 + (k : Int))).fmod (((R.map PyData.int).length : Nat) : Int) = (((a + k) % R.length : Nat) : Int) := by
    rw [e1, fmod_nat, show (a : Int) + (0 + (k : Int)) = ((a + k : Nat) : Int) by omega, ← Int.natCast_emod]
  have f2 : ((a : Int) + (0 + (k : Int)) + 1).fmod (((R.map PyData.int).length : Nat) : Int) = (((a + (k + 1)) % R.length : Nat) : Int) := by
    rw [e1, fmod_nat, show (a : Int) + (0 + (k : Int)) + 1 = ((a + (k + 1) : Nat) : Int) by omega, ← Int.natCast_emod]
  have m1 := fw_at oR.ne (a := a) (k := k)
  have m2 := fw_at oR.ne (a := a) (k := k + 1)
  rw [← f1] at m1
  rw [← f2] at m2
  refine ⟨by rw [e1]; omega, wD_at m1 ?_⟩
  refine ⟨by rw [e1]; omega, wD_at m2 ?_⟩
  have z0 : (0 : Int) - RY.fw R a k = -(RY.fw R a k) := Int.zero_sub _
  refine ⟨rfl, rfl, ?_⟩
  show W__law_steps [.d (tupD P), .d (.int (0 - RY.fw R a k)), .d (.int (RY.fw R a (k + 1)))] _
  rw [z0]
  refine w__law_steps oP (oR.mem _ (RY.fw_mem oR.ne a k)).2 (oR.mem _ (RY.fw_mem oR.ne a (k + 1))).1 ?_
  refine ⟨by rw [List.length_map]; exact small1000 (Nat.le_of_lt hl), ?_⟩
  have := h (.d (.int (RY.fw R a k))) (.d (.int (RY.fw R a (k + 1))))
  rw [List.map_append] at this
  exact this
theorem w__law_digits {P R : List Int} {a m : Nat} {i : Int} (oP : OkP P) (oR : OkR P R) (hm : m ≤ 999) (hi : i = (m : Nat)) (h : p (.d (lstD ((List.range m).map (RY.dig P (RY.fw R a))))) [.d (tupD P), .d (tupD R), .d (.int (a : Nat)), .d (.int i)]) :
    W__law_digits [.d (tupD P), .d (tupD R), .d (.int (a : Nat)), .d (.int i)] p := by
  subst hi
  refine ⟨rfl, Nat.zero_le _, ?_⟩
  refine ⟨⟨by decide, by decide, by omega, by omega⟩, sz (by omega), ?_⟩
  rw [Int.sub_zero, rangeD_eq, Int.toNat_natCast]
  refine forW_ind (i := 5) (t := B__law_digits_0) (fun (i : Nat) => PyData.int (0 + (i : Int))) (fun r ρ => ∃ i c5 c6 c7, r = (List.range m).drop i ∧ i ≤ m ∧ ρ = [.d (tupD P), .d (tupD R), .d (.int (a : Nat)), .d (.int (m : Nat)), .own true (.lst (((List.range i).map (RY.dig P (RY.fw R a))).map PyData.int)), c5, c6, c7]) (fun j r ρ N hJ hN => ?_) (fun ρ hJ => ?_) _ _ ⟨0, _, _, _, rfl, Nat.zero_le _, rfl⟩
  · obtain ⟨i, c5, c6, c7, hr, hi, rfl⟩ := hJ
    obtain ⟨rfl, hr, hlt⟩ := range_drop hr
    refine dg_body (c3 := .d (.int (m : Nat))) (c6 := c6) (c7 := c7) oP oR (by rw [List.length_map, List.length_range]; omega) N _ fun c6 c7 => ?_
    refine hN _ ⟨j + 1, .d (.int (0 + (j : Int))), c6, c7, hr, by omega, ?_⟩
    rw [List.range_succ, List.map_append (l₁ := List.range j)]
    rfl
  · obtain ⟨i, c5, c6, c7, hr, hi, rfl⟩ := hJ
    have : i = m := by have := range_done hr; omega
    subst this
    exact h
theorem pw_nat {b : Int} {n : Nat} (hb : 1 ≤ b ∧ b ≤ 8) (hn : n ≤ 36) : b ^ n ≤ 2 ^ 108 := by
  obtain ⟨m, rfl⟩ : ∃ m : Nat, b = m := ⟨b.toNat, by omega⟩
  have h1 : m ^ n ≤ 8 ^ n := Nat.pow_le_pow_left (by omega) n
  have h2 : 8 ^ n ≤ 8 ^ 36 := Nat.pow_le_pow_right (by decide) hn
  have h3 : (8 : Nat) ^ 36 = 2 ^ 108 := by decide
  have : ((m ^ n : Nat) : Int) ≤ ((2 ^ 108 : Nat) : Int) := by omega
  rw [Int.natCast_pow] at this
  exact this
theorem mok {i j : Int} (hi : 0 ≤ i ∧ i ≤ 2 ^ 108) (hj : 0 ≤ j ∧ j ≤ 2 ^ 108) : mulOk i j :=
  .inr (wide_mul (a := 110) (b := 110) (by have : (2 : Int) ^ 108 < 2 ^ 110 := by decide
                                           omega) (by have : (2 : Int) ^ 108 < 2 ^ 110 := by decide
                                                      omega) (by decide) (by decide) (by decide))
theorem sum_step {b : Int} {x : Nat → Int} (hb : 1 ≤ b) {m i : Nat} (h : i < m) : (b ^ (m - i)).fdiv b = b ^ (m - (i + 1)) ∧ RY.V b x i * b ^ (m - i) + x i * b ^ (m - (i + 1)) = RY.V b x (i + 1) * b ^ (m - (i + 1)) := by
  obtain ⟨r, hr⟩ : ∃ r, m - i = r + 1 := ⟨m - i - 1, by omega⟩
  have hr2 : m - (i + 1) = r := by omega
  rw [hr, hr2, Int.pow_succ]
  refine ⟨?_, ?_⟩
  · rw [Int.fdiv_eq_ediv_of_nonneg _ (by omega), Int.mul_ediv_cancel _ (by omega)]
  · show _ = (RY.V b x i * b + x i) * b ^ r
    grind
theorem w__law_sum {b : Int} {x : Nat → Int} {m : Nat} (hb : 1 ≤ b ∧ b ≤ 8) (hx : ∀ k, 0 ≤ x k ∧ x k < b) (h : p (.d (.int (RY.V b x m))) [.d (.int b), .d (lstD ((List.range m).map x)), .d (.int (b ^ m))]) :
    W__law_sum [.d (.int b), .d (lstD ((List.range m).map x)), .d (.int (b ^ m))] p := by
  refine ⟨rfl, ?_⟩
  show forW (.nm 5) B__law_sum_0 _ (((List.range m).map x).map PyData.int) _
  rw [show ((List.range m).map x).map PyData.int = (List.range m).map fun i => PyData.int (x i) by rw [List.map_map]; rfl]
  refine forW_ind (i := 5) (t := B__law_sum_0) (fun (i : Nat) => PyData.int (x i)) (fun r ρ => ∃ i c5, r = (List.range m).drop i ∧ i ≤ m ∧ ρ = [.d (.int b), .d (lstD ((List.range m).map x)), .d (.int (b ^ m)), .d (.int (RY.V b x i * b ^ (m - i))), .d (.int (b ^ (m - i))), c5]) (fun j r ρ N hJ hN => ?_) (fun ρ hJ => ?_) _ _ ⟨0, .un, rfl, Nat.zero_le _, ?_⟩
  · obtain ⟨i, c5, hr, hi, rfl⟩ := hJ
    obtain ⟨rfl, hr, hlt⟩ := range_drop hr
    have e := sum_step (x := x) hb.1 hlt
    have q1 := hx j
    refine ⟨.inl ⟨by omega, by omega⟩, ?_⟩
    rw [e.1]
    refine ⟨.inl (.inl ⟨by omega, by omega⟩), ?_⟩
    refine hN _ ⟨j + 1, .d (.int (x j)), hr, by omega, ?_⟩
    rw [← e.2]
    rfl
  · obtain ⟨i, c5, hr, hi, rfl⟩ := hJ
    have : i = m := by have := range_done hr; omega
    subst this
    rw [Nat.sub_self, Int.pow_zero, Int.mul_one]
    exact h
  · show _ = [_, _, _, Sl.d (.int (0 * b ^ (m - 0))), Sl.d (.int (b ^ (m - 0))), _]
    rw [Int.zero_mul, Nat.sub_zero]
    rfl
end
end K13

namespace K13
open PySem PySem.Spec PyProof.Rows L2 DL FG CV RZ
section
variable {P R : List Int} {a : Nat} {b : Int} {En : EndsD} {c0 c1 c2 c3 c4 c5 c6 c7 c8 c9 c10 c11 c12 c13 c14 c15 c16 c17 c18 c19 c20 c21 c22 c23 c24 c25 c26 c27 c28 c29 : Sl}
/-! one ray and its row of digits -/
structure Ray (b : Int) (L : Nat) (x : Nat → Int) : Prop where
  hb : 1 ≤ b ∧ b ≤ 8
  hL : 1 ≤ L ∧ L ≤ 12
  hx : ∀ k, 1 ≤ x k ∧ x k < b
  per : RY.Per x L
theorem Ray.nn {L : Nat} {x : Nat → Int} (h : Ray b L x) : ∀ k, 0 ≤ x k ∧ x k < b := fun k => ⟨by have := (h.hx k).1; omega, (h.hx k).2⟩
theorem Ray.V {L : Nat} {x : Nat → Int} (h : Ray b L x) : ∀ n, n ≤ 36 → 0 ≤ RY.V b x n ∧ RY.V b x n ≤ 2 ^ 108 := fun n hn =>
  ⟨RY.V_nn h.hb.1 h.nn n, Int.le_of_lt (Int.lt_of_lt_of_le (RY.V_lt_pow h.hb.1 h.nn n) (pw_nat h.hb hn))⟩
theorem Ray.pw {L : Nat} {x : Nat → Int} (h : Ray b L x) : ∀ n, n ≤ 36 → 1 ≤ b ^ n ∧ b ^ n ≤ 2 ^ 108 := fun n hn => ⟨RY.pow_pos' h.hb.1 n, pw_nat h.hb hn⟩
theorem ones_for {i : Nat} {m : Nat} (hb : 1 ≤ b ∧ b ≤ 8) {t : STy} {ρ0 : Int → Sl → DL.Env} (hs : ∀ y c d, (ρ0 y c).set i (.d d) = ρ0 y (.d d)) (hh : ∀ (N : DL.Env → Prop) y c, (∀ z, z = y * b → N (ρ0 z c)) → mulOk y b → t { En with nx := N, ct := N, bk := En.nx } (ρ0 y c))
    (c : Sl) (h : ∀ c, En.nx (ρ0 (b ^ m) c)) : forW (.nm i) t En (rangeD 0 m) (ρ0 1 c) := by
  rw [rangeD_eq]
  refine forW_ind (i := i) (t := t) (fun (i : Nat) => PyData.int (0 + (i : Int))) (fun r ρ => ∃ j c, r = (List.range m).drop j ∧ j ≤ m ∧ ρ = ρ0 (b ^ j) c) (fun j r ρ N hJ hN => ?_) (fun ρ hJ => ?_) _ _ ⟨0, c, rfl, Nat.zero_le _, by rw [Int.pow_zero]⟩
  · obtain ⟨k, c, hr, hk, rfl⟩ := hJ
    obtain ⟨rfl, hr, hlt⟩ := range_drop hr
    rw [hs]
    refine hh N _ _ (fun z hz => hN _ ⟨j + 1, .d (.int (0 + (j : Int))), hr, by omega, ?_⟩) (.inl (.inr ⟨by omega, by omega⟩))
    rw [hz, Int.pow_succ]
  · obtain ⟨k, c, hr, hk, rfl⟩ := hJ
    have : k = m := by have := range_done hr; omega
    subst this
    exact h _
section
variable {L : Nat} {x : Nat → Int}
theorem z0 (ry : Ray b L x) (h : En.nx (c0 :: c1 :: c2 :: c3 :: (.d (.int b)) :: c5 :: c6 :: c7 :: c8 :: c9 :: c10 :: c11 :: (.d (.int (b ^ (3 * L)))) :: c13 :: c14 :: (.d (lstD ((List.range (3 * L)).map x))) :: (.d (.int (RY.V b x L))) :: (.d (.int (b ^ L - 1))) :: (.d (.int (RY.V b x L))) :: c19 :: c20 :: c21 :: c22 :: c23 :: c24 :: c25 :: c26 :: c27 :: c28 :: c29 :: Sl.un :: Sl.un :: Sl.un :: Sl.un :: [])) :
    S_law_0 En (c0 :: c1 :: c2 :: c3 :: (.d (.int b)) :: c5 :: c6 :: c7 :: c8 :: c9 :: c10 :: c11 :: (.d (.int (b ^ (3 * L)))) :: c13 :: c14 :: (.d (lstD ((List.range (3 * L)).map x))) :: (.d (.int (RY.V b x L))) :: (.d (.int (b ^ L - 1))) :: c18 :: c19 :: c20 :: c21 :: c22 :: c23 :: c24 :: c25 :: c26 :: c27 :: c28 :: c29 :: Sl.un :: Sl.un :: Sl.un :: Sl.un :: []) := by
  have l1 := ry.hL
  have v1 := ry.V L (by omega)
  have v3 := ry.V (3 * L) (by omega)
  have p1 := ry.pw L (by omega)
  have p3 := ry.pw (3 * L) (by omega)
  refine ⟨mok v1 ⟨by omega, p3.2⟩, rfl, w__law_sum ry.hb ry.nn ?_⟩
  refine ⟨mok ⟨by omega, by omega⟩ v3, ?_⟩
  have e := rest_eq (b := b) ry.per 3
  rw [Nat.mul_comm L 3] at e
  have h2 : En.nx (List.set (c0 :: c1 :: c2 :: c3 :: (.d (.int b)) :: c5 :: c6 :: c7 :: c8 :: c9 :: c10 :: c11 :: (.d (.int (b ^ (3 * L)))) :: c13 :: c14 :: (.d (lstD ((List.range (3 * L)).map x))) :: (.d (.int (RY.V b x L))) :: (.d (.int (b ^ L - 1))) :: c18 :: c19 :: c20 :: c21 :: c22 :: c23 :: c24 :: c25 :: c26 :: c27 :: c28 :: c29 :: Sl.un :: Sl.un :: Sl.un :: Sl.un :: []) 18 (.d (.int (RY.V b x L * b ^ (3 * L) - (b ^ L - 1) * RY.V b x (3 * L))))) := by rw [e]; exact h
  exact h2
theorem z1 (ry : Ray b L x) (h : En.nx (c0 :: c1 :: c2 :: c3 :: (.d (.int b)) :: c5 :: c6 :: c7 :: c8 :: c9 :: c10 :: c11 :: c12 :: c13 :: c14 :: (.d (lstD ((List.range (3 * L)).map x))) :: c16 :: (.d (.int (b ^ L - 1))) :: (.d (.int (RY.V b x L))) :: c19 :: c20 :: c21 :: c22 :: c23 :: c24 :: c25 :: c26 :: c27 :: c28 :: c29 :: Sl.un :: Sl.un :: Sl.un :: Sl.un :: [])) :
    S_law_1 En (c0 :: c1 :: c2 :: c3 :: (.d (.int b)) :: c5 :: c6 :: c7 :: c8 :: c9 :: c10 :: c11 :: c12 :: c13 :: c14 :: (.d (lstD ((List.range (3 * L)).map x))) :: c16 :: (.d (.int (b ^ L - 1))) :: (.d (.int (RY.V b x L))) :: c19 :: c20 :: c21 :: c22 :: c23 :: c24 :: c25 :: c26 :: c27 :: c28 :: c29 :: Sl.un :: Sl.un :: Sl.un :: Sl.un :: []) := by
  have l1 := ry.hL
  have v := V_ge1 ry.hb.1 ry.hx l1.1
  have w := RY.V_lt_pow ry.hb.1 ry.nn L
  refine iteD (fun c => absurd c (by omega)) fun _ => ?_
  refine iteD (fun c => absurd c (by omega)) fun _ => ?_
  show lcW (.nm 33) _ _ [33] _ (((List.range (3 * L)).map x).map PyData.int) [] _
  refine lcW_filterE (i := 33) PyData.int PyData.int (fun _ => false) ((List.range (3 * L)).map x) rfl rfl (fun y hy q hq => ?_) (fun y hy c => by cases c) ?_
  · obtain ⟨k, hk, rfl⟩ := List.mem_map.mp hy
    have := ry.hx k
    refine iteD (fun c => absurd c (by omega)) fun _ => ?_
    have e : decide (x k ≥ b) = false := decide_eq_false (by omega)
    show q (decide (x k ≥ b)) _
    rw [e]; exact hq
  · rw [show ((List.range (3 * L)).map x).filter (fun _ => false) = [] by simp]
    refine ⟨Nat.zero_le _, okLI [], okLI [], ?_⟩
    exact h
theorem z3 (ry : Ray b R.length x) (hR : R.length ≤ 300) (h : ∀ c13, En.nx (c0 :: c1 :: c2 :: c3 :: (.d (.int b)) :: c5 :: c6 :: (.d (tupD R)) :: c8 :: c9 :: c10 :: c11 :: c12 :: c13 :: c14 :: c15 :: c16 :: c17 :: c18 :: (.d (.int (b ^ R.length))) :: c20 :: c21 :: c22 :: c23 :: c24 :: c25 :: c26 :: c27 :: c28 :: c29 :: Sl.un :: Sl.un :: Sl.un :: Sl.un :: [])) : S_law_3 En (c0 :: c1 :: c2 :: c3 :: (.d (.int b)) :: c5 :: c6 :: (.d (tupD R)) :: c8 :: c9 :: c10 :: c11 :: c12 :: c13 :: c14 :: c15 :: c16 :: c17 :: c18 :: (.d (.int 1)) :: c20 :: c21 :: c22 :: c23 :: c24 :: c25 :: c26 :: c27 :: c28 :: c29 :: Sl.un :: Sl.un :: Sl.un :: Sl.un :: []) := by
  have e1 : (((R.map PyData.int).length : Nat) : Int) = (R.length : Nat) := by rw [List.length_map]
  refine ⟨⟨by decide, by decide, by rw [e1]; omega, by rw [e1]; omega⟩, by rw [e1]; exact sz (by omega), ?_⟩
  rw [e1, Int.sub_zero, Int.toNat_natCast]
  exact ones_for (i := 13) (t := B_law_1) ry.hb (ρ0 := fun y c13 => (c0 :: c1 :: c2 :: c3 :: (.d (.int b)) :: c5 :: c6 :: (.d (tupD R)) :: c8 :: c9 :: c10 :: c11 :: c12 :: c13 :: c14 :: c15 :: c16 :: c17 :: c18 :: (.d (.int y)) :: c20 :: c21 :: c22 :: c23 :: c24 :: c25 :: c26 :: c27 :: c28 :: c29 :: Sl.un :: Sl.un :: Sl.un :: Sl.un :: [])) (fun _ _ _ => rfl) (fun N y c13 hN hm => ⟨hm, hN _ rfl⟩) c13 h
theorem z4 (h : En.nx (c0 :: c1 :: c2 :: c3 :: c4 :: c5 :: c6 :: c7 :: c8 :: c9 :: c10 :: c11 :: c12 :: c13 :: c14 :: c15 :: c16 :: (.d (.int (b ^ L - 1))) :: c18 :: (.d (.int (b ^ L))) :: c20 :: c21 :: c22 :: c23 :: c24 :: c25 :: c26 :: c27 :: c28 :: c29 :: Sl.un :: Sl.un :: Sl.un :: Sl.un :: [])) : S_law_4 En (c0 :: c1 :: c2 :: c3 :: c4 :: c5 :: c6 :: c7 :: c8 :: c9 :: c10 :: c11 :: c12 :: c13 :: c14 :: c15 :: c16 :: (.d (.int (b ^ L - 1))) :: c18 :: (.d (.int (b ^ L))) :: c20 :: c21 :: c22 :: c23 :: c24 :: c25 :: c26 :: c27 :: c28 :: c29 :: Sl.un :: Sl.un :: Sl.un :: Sl.un :: []) :=
  iteN (fun c => absurd rfl c) fun _ => h
theorem zall (ry : Ray b R.length x) (hR : R.length ≤ 300) (h : ∀ c13 c18 c19, En.nx (c0 :: c1 :: c2 :: c3 :: (.d (.int b)) :: c5 :: c6 :: (.d (tupD R)) :: c8 :: c9 :: c10 :: c11 :: (.d (.int (b ^ (3 * R.length)))) :: c13 :: c14 :: (.d (lstD ((List.range (3 * R.length)).map x))) :: (.d (.int (RY.V b x R.length))) :: (.d (.int (b ^ R.length - 1))) :: c18 :: c19 :: c20 :: c21 :: c22 :: c23 :: c24 :: c25 :: c26 :: c27 :: c28 :: c29 :: Sl.un :: Sl.un :: Sl.un :: Sl.un :: [])) :
    B_law_2 En (c0 :: c1 :: c2 :: c3 :: (.d (.int b)) :: c5 :: c6 :: (.d (tupD R)) :: c8 :: c9 :: c10 :: c11 :: (.d (.int (b ^ (3 * R.length)))) :: c13 :: c14 :: (.d (lstD ((List.range (3 * R.length)).map x))) :: (.d (.int (RY.V b x R.length))) :: (.d (.int (b ^ R.length - 1))) :: c18 :: c19 :: c20 :: c21 :: c22 :: c23 :: c24 :: c25 :: c26 :: c27 :: c28 :: c29 :: Sl.un :: Sl.un :: Sl.un :: Sl.un :: []) := by
  refine i_seq (z0 ry ?_)
  refine n_seq (z1 ry ?_)
  refine n_seq ?_
  refine n_seq (z3 ry hR fun c13 => ?_)
  exact n_last (z4 (L := R.length) (b := b) (h _ _ _))
end
end
end K13

namespace K13
open PySem PySem.Spec PyProof.Rows L2 DL FG CV RZ
section
variable {P R : List Int} {a : Nat} {b : Int} {En : EndsD} {c0 c1 c2 c3 c4 c5 c6 c7 c8 c9 c10 c11 c12 c13 c14 c15 c16 c17 c18 c19 c20 c21 c22 c23 c24 c25 c26 c27 c28 c29 : Sl}
theorem okP_of {n : Nat} (hP : OR.PlZ n P) (hn : 1 ≤ n ∧ n ≤ 12) : OkP P := ⟨hP.nd, by have := hP.len; omega, by have := hP.len; omega⟩
structure Rr (P R : List Int) : Prop where
  ok : OkR P R
  len : R.length ≤ 12
  pos : ∀ a k, 1 ≤ RY.dig P (RY.fw R a) k
  posU : ∀ a k, 1 ≤ RY.dig P (RY.fw (und R) a) k
  eff : ∃ l, 1 ≤ l ∧ l ≤ 6 ∧ l ≤ R.length ∧ ∀ a, RY.Per (RY.dig P (RY.fw R a)) l
theorem und_ne {A : List Int} (h : A ≠ []) : und A ≠ [] := fun e => h (List.eq_nil_of_length_eq_zero (by rw [← und_len, e]; rfl))
theorem canc_und {A : List Int} (h : ¬ Canc A) : ¬ Canc (und A) := by
  have h1 := core_undone A
  rw [core_stop h] at h1
  have h2 := core_not (undone A)
  rw [h1] at h2
  exact h2
theorem Rr.of {n m : Nat} {A : List Int} (hP : OR.PlZ n P) (hn : 1 ≤ n ∧ n ≤ 12) (h : Rg n m A) (hm : m ≤ 6) : Rr P A where
  ok := ⟨h.ne, by have := h.len; omega, fun x hx => by
    have := h.mem x hx
    exact ⟨(hP.mem x).mpr ⟨this.1, by omega, by omega⟩, (hP.mem _).mpr ⟨by omega, by omega, by omega⟩⟩⟩
  len := by have := h.len; omega
  pos := fun a k => dig_pos (fun e => by have := hP.len; rw [e] at this; simp at this; omega) (fun x hx => by
    have := h.mem x hx
    exact ⟨(hP.mem x).mpr ⟨this.1, by omega, by omega⟩, (hP.mem _).mpr ⟨by omega, by omega, by omega⟩⟩) h.red h.nc (fun x hx => (h.mem x hx).1) h.ne a k
  posU := fun a k => dig_pos (fun e => by have := hP.len; rw [e] at this; simp at this; omega) (fun x hx => by
    have := h.mem _ (und_mem hx)
    exact ⟨(hP.mem x).mpr ⟨by omega, by omega, by omega⟩, (hP.mem _).mpr ⟨by omega, by omega, by omega⟩⟩) (red_undone h.red) (canc_und h.nc) (fun x hx e => (h.mem _ (und_mem hx)).1 (by omega)) (und_ne h.ne) a k
  eff := ⟨A.length, by have := List.length_pos_iff.mpr h.ne; omega, by have := h.len; omega, Nat.le_refl _, fun a => RY.dig_per P A a⟩
theorem und_two (A : List Int) : und (A ++ A) = und A ++ und A := by simp [und]
theorem dig_two {A : List Int} (hA : A ≠ []) (a : Nat) : RY.dig P (RY.fw (A ++ A) a) = RY.dig P (RY.fw A a) := by
  funext j
  unfold RY.dig
  rw [RY.fw_two hA, RY.fw_two hA]
theorem Rr.two {A : List Int} (h : Rr P A) (hl : A.length ≤ 6) : Rr P (A ++ A) where
  ok := ⟨fun e => h.ok.ne (List.append_eq_nil_iff.mp e).1, by rw [List.length_append]; omega, fun x hx => h.ok.mem x ((List.mem_append.mp hx).elim id id)⟩
  len := by rw [List.length_append]; omega
  pos := fun a k => by rw [dig_two h.ok.ne]; exact h.pos a k
  posU := fun a k => by
    rw [und_two, dig_two (und_ne h.ok.ne)]
    exact h.posU a k
  eff := by
    obtain ⟨l, h1, h2, h3, h4⟩ := h.eff
    exact ⟨l, h1, h2, by rw [List.length_append]; omega, fun a => by rw [dig_two h.ok.ne]; exact h4 a⟩
structure PB (P : List Int) (b : Int) : Prop where
  ok : OkP P
  eq : b = (P.length : Nat)
  le : P.length ≤ 8
theorem PB.ne (h : PB P b) : P ≠ [] := fun e => by have := h.ok.two; rw [e] at this; simp at this
theorem ray1 (hp : PB P b) (h : Rr P R) (a : Nat) : Ray b R.length (RY.dig P (RY.fw R a)) where
  hb := by have := hp.ok.two; have := hp.le; have := hp.eq; omega
  hL := ⟨by have := List.length_pos_iff.mpr h.ok.ne; omega, h.len⟩
  hx := fun k => ⟨h.pos a k, by rw [hp.eq]; exact (RY.dig_ok hp.ne _ k).2⟩
  per := RY.dig_per P R a
theorem ray2 (hp : PB P b) (h : Rr P R) (a : Nat) : Ray b R.length (RY.dig P (RY.fw (und R) a)) where
  hb := by have := hp.ok.two; have := hp.le; have := hp.eq; omega
  hL := ⟨by have := List.length_pos_iff.mpr h.ok.ne; omega, h.len⟩
  hx := fun k => ⟨h.posU a k, by rw [hp.eq]; exact (RY.dig_ok hp.ne _ k).2⟩
  per := by have := RY.dig_per P (und R) a; rw [und_len] at this; exact this
theorem numD_eq (hp : PB P b) (a : Nat) : numD P R a = .tuple [.int (RY.V b (RY.dig P (RY.fw R a)) R.length), .int (b ^ R.length - 1)] := by
  unfold numD RY.num RY.bot; rw [hp.eq]
theorem backD_eq (hp : PB P b) (a : Nat) : backD P R a = .tuple [.int (RY.V b (RY.dig P (RY.fw (und R) (R.length - 1 - a))) R.length), .int (b ^ R.length - 1)] := by
  unfold backD numD RY.num RY.bot; rw [hp.eq, und_len]
theorem t5 (hp : PB P b) (h : Rr P R) (hh : En.nx (c0 :: c1 :: c2 :: (.d (tupD P)) :: c4 :: c5 :: c6 :: (.d (tupD R)) :: c8 :: (.d (.int (a : Nat))) :: (.d (lstD ((List.range (3 * R.length)).map (RY.dig P (RY.fw R a))))) :: c11 :: c12 :: c13 :: c14 :: c15 :: c16 :: c17 :: c18 :: c19 :: c20 :: c21 :: c22 :: c23 :: c24 :: c25 :: c26 :: c27 :: c28 :: c29 :: Sl.un :: Sl.un :: Sl.un :: Sl.un :: [])) : S_law_5 En (c0 :: c1 :: c2 :: (.d (tupD P)) :: c4 :: c5 :: c6 :: (.d (tupD R)) :: c8 :: (.d (.int (a : Nat))) :: c10 :: c11 :: c12 :: c13 :: c14 :: c15 :: c16 :: c17 :: c18 :: c19 :: c20 :: c21 :: c22 :: c23 :: c24 :: c25 :: c26 :: c27 :: c28 :: c29 :: Sl.un :: Sl.un :: Sl.un :: Sl.un :: []) := by
  have e1 : (((R.map PyData.int).length : Nat) : Int) = (R.length : Nat) := by rw [List.length_map]
  have := h.len
  exact ⟨.inl (.inl ⟨by decide, by decide⟩), rfl, w__law_digits (m := 3 * R.length) hp.ok h.ok (by omega) (by rw [e1]; omega) hh⟩
theorem t6 (hp : PB P b) (h : Rr P R) (ha : a < R.length) (hh : En.nx (c0 :: c1 :: c2 :: (.d (tupD P)) :: c4 :: c5 :: c6 :: (.d (tupD R)) :: (.d (tupD (und R))) :: (.d (.int (a : Nat))) :: c10 :: (.d (lstD ((List.range (3 * R.length)).map (RY.dig P (RY.fw (und R) (R.length - 1 - a)))))) :: c12 :: c13 :: c14 :: c15 :: c16 :: c17 :: c18 :: c19 :: c20 :: c21 :: c22 :: c23 :: c24 :: c25 :: c26 :: c27 :: c28 :: c29 :: Sl.un :: Sl.un :: Sl.un :: Sl.un :: [])) : S_law_6 En (c0 :: c1 :: c2 :: (.d (tupD P)) :: c4 :: c5 :: c6 :: (.d (tupD R)) :: (.d (tupD (und R))) :: (.d (.int (a : Nat))) :: c10 :: c11 :: c12 :: c13 :: c14 :: c15 :: c16 :: c17 :: c18 :: c19 :: c20 :: c21 :: c22 :: c23 :: c24 :: c25 :: c26 :: c27 :: c28 :: c29 :: Sl.un :: Sl.un :: Sl.un :: Sl.un :: []) := by
  have e1 : (((R.map PyData.int).length : Nat) : Int) = (R.length : Nat) := by rw [List.length_map]
  have := h.len
  have e : (((R.map PyData.int).length : Nat) : Int) - 1 - (a : Int) = ((R.length - 1 - a : Nat) : Int) := by rw [List.length_map]; omega
  refine ⟨.inl (.inl ⟨by decide, by decide⟩), rfl, ?_⟩
  rw [e]
  exact w__law_digits (m := 3 * R.length) hp.ok h.ok.und (by omega) (by rw [e1]; omega) hh
theorem t8 (hp : PB P b) (h : Rr P R) (hh : ∀ c13, En.nx (c0 :: c1 :: c2 :: c3 :: (.d (.int b)) :: c5 :: c6 :: (.d (tupD R)) :: c8 :: c9 :: c10 :: c11 :: (.d (.int (b ^ (3 * R.length)))) :: c13 :: c14 :: c15 :: c16 :: c17 :: c18 :: c19 :: c20 :: c21 :: c22 :: c23 :: c24 :: c25 :: c26 :: c27 :: c28 :: c29 :: Sl.un :: Sl.un :: Sl.un :: Sl.un :: [])) : S_law_8 En (c0 :: c1 :: c2 :: c3 :: (.d (.int b)) :: c5 :: c6 :: (.d (tupD R)) :: c8 :: c9 :: c10 :: c11 :: (.d (.int 1)) :: c13 :: c14 :: c15 :: c16 :: c17 :: c18 :: c19 :: c20 :: c21 :: c22 :: c23 :: c24 :: c25 :: c26 :: c27 :: c28 :: c29 :: Sl.un :: Sl.un :: Sl.un :: Sl.un :: []) := by
  have e1 : (((R.map PyData.int).length : Nat) : Int) = (R.length : Nat) := by rw [List.length_map]
  have := h.len
  refine ⟨.inl (.inl ⟨by decide, by decide⟩), ⟨by decide, by decide, by rw [e1]; omega, by rw [e1]; omega⟩, by rw [e1]; exact sz (by omega), ?_⟩
  rw [e1, show (3 * ((R.length : Nat) : Int) - 0).toNat = 3 * R.length by omega]
  exact ones_for (i := 13) (t := B_law_0) (ray1 hp h 0).hb (ρ0 := fun y c13 => (c0 :: c1 :: c2 :: c3 :: (.d (.int b)) :: c5 :: c6 :: (.d (tupD R)) :: c8 :: c9 :: c10 :: c11 :: (.d (.int y)) :: c13 :: c14 :: c15 :: c16 :: c17 :: c18 :: c19 :: c20 :: c21 :: c22 :: c23 :: c24 :: c25 :: c26 :: c27 :: c28 :: c29 :: Sl.un :: Sl.un :: Sl.un :: Sl.un :: [])) (fun _ _ _ => rfl) (fun N y c13 hN hm => ⟨hm, hN _ rfl⟩) c13 hh
theorem t9 (hp : PB P b) (h : Rr P R) (ha : a < R.length) (hh : En.nx (c0 :: c1 :: c2 :: (.d (tupD P)) :: c4 :: c5 :: c6 :: (.d (tupD R)) :: c8 :: (.d (.int (a : Nat))) :: c10 :: c11 :: c12 :: c13 :: (.d (.list [numD P R a, backD P R a])) :: c15 :: c16 :: c17 :: c18 :: c19 :: c20 :: c21 :: c22 :: c23 :: c24 :: c25 :: c26 :: c27 :: c28 :: c29 :: Sl.un :: Sl.un :: Sl.un :: Sl.un :: [])) : S_law_9 En (c0 :: c1 :: c2 :: (.d (tupD P)) :: c4 :: c5 :: c6 :: (.d (tupD R)) :: c8 :: (.d (.int (a : Nat))) :: c10 :: c11 :: c12 :: c13 :: c14 :: c15 :: c16 :: c17 :: c18 :: c19 :: c20 :: c21 :: c22 :: c23 :: c24 :: c25 :: c26 :: c27 :: c28 :: c29 :: Sl.un :: Sl.un :: Sl.un :: Sl.un :: []) :=
  ⟨rfl, w_ray_number hp.ok h.ok (Nat.le_of_lt ha) ⟨rfl, w_back_number hp.ok h.ok ha ⟨sz (by show 2 ≤ 1000; omega), hh⟩⟩⟩
theorem t10 (hp : PB P b) (h : Rr P R) (ha : a < R.length) (hh : ∀ c13 c15 c16 c17 c18 c19, En.nx (c0 :: c1 :: c2 :: (.d (tupD P)) :: (.d (.int b)) :: c5 :: c6 :: (.d (tupD R)) :: c8 :: (.d (.int (a : Nat))) :: (.d (lstD ((List.range (3 * R.length)).map (RY.dig P (RY.fw R a))))) :: (.d (lstD ((List.range (3 * R.length)).map (RY.dig P (RY.fw (und R) (R.length - 1 - a)))))) :: (.d (.int (b ^ (3 * R.length)))) :: c13 :: (.d (.list [numD P R a, backD P R a])) :: c15 :: c16 :: c17 :: c18 :: c19 :: c20 :: c21 :: c22 :: c23 :: c24 :: c25 :: c26 :: c27 :: c28 :: c29 :: Sl.un :: Sl.un :: Sl.un :: Sl.un :: [])) : S_law_10 En (c0 :: c1 :: c2 :: (.d (tupD P)) :: (.d (.int b)) :: c5 :: c6 :: (.d (tupD R)) :: c8 :: (.d (.int (a : Nat))) :: (.d (lstD ((List.range (3 * R.length)).map (RY.dig P (RY.fw R a))))) :: (.d (lstD ((List.range (3 * R.length)).map (RY.dig P (RY.fw (und R) (R.length - 1 - a)))))) :: (.d (.int (b ^ (3 * R.length)))) :: c13 :: (.d (.list [numD P R a, backD P R a])) :: c15 :: c16 :: c17 :: c18 :: c19 :: c20 :: c21 :: c22 :: c23 :: c24 :: c25 :: c26 :: c27 :: c28 :: c29 :: Sl.un :: Sl.un :: Sl.un :: Sl.un :: []) := by
  have hl := h.len
  have e1 := numD_eq (R := R) hp a
  have e2 := backD_eq (R := R) hp a
  have r1 := ray1 hp h a
  have r2 := ray2 hp h (R.length - 1 - a)
  generalize RY.dig P (RY.fw R a) = x at *
  generalize RY.dig P (RY.fw (und R) (R.length - 1 - a)) = y at *
  generalize numD P R a = u at *
  generalize backD P R a = v at *
  subst e1
  subst e2
  refine ⟨sz (by show 2 ≤ 1000; omega), ?_⟩
  refine zall r1 (by omega) fun c13 c18 c19 => ?_
  exact zall r2 (by omega) fun c13 c18 c19 => hh _ _ _ _ _ _
def pairD (P R : List Int) (a : Nat) : D := if 0 < R.getD a 0 then .tuple [numD P R a, backD P R a] else .tuple [backD P R a, numD P R a]
theorem t11 (hp : PB P b) (h : Rr P R) (ha : a < R.length) (hh : En.nx (c0 :: c1 :: c2 :: c3 :: c4 :: c5 :: c6 :: (.d (tupD R)) :: c8 :: (.d (.int (a : Nat))) :: c10 :: c11 :: c12 :: c13 :: (.d (.list [numD P R a, backD P R a])) :: c15 :: c16 :: c17 :: c18 :: c19 :: (.d (pairD P R a)) :: c21 :: c22 :: c23 :: c24 :: c25 :: c26 :: c27 :: c28 :: c29 :: Sl.un :: Sl.un :: Sl.un :: Sl.un :: [])) : S_law_11 En (c0 :: c1 :: c2 :: c3 :: c4 :: c5 :: c6 :: (.d (tupD R)) :: c8 :: (.d (.int (a : Nat))) :: c10 :: c11 :: c12 :: c13 :: (.d (.list [numD P R a, backD P R a])) :: c15 :: c16 :: c17 :: c18 :: c19 :: c20 :: c21 :: c22 :: c23 :: c24 :: c25 :: c26 :: c27 :: c28 :: c29 :: Sl.un :: Sl.un :: Sl.un :: Sl.un :: []) := by
  have eg : R.getD a 0 = R[a] := by rw [List.getD_eq_getElem?_getD, List.getElem?_eq_getElem ha]; rfl
  refine wD_at (atI_at R a ha) ?_
  refine iteD (fun c => ?_) fun c => ?_
  · unfold pairD at hh
    rw [eg, if_pos c] at hh
    exact hh
  · unfold pairD at hh
    rw [eg, if_neg c] at hh
    exact ⟨sz (by show 2 ≤ 1000; omega), hh⟩
theorem fitN (hp : PB P b) (h : Rr P R) (a : Nat) : FitB 1 402 (numD P R a) ∧ FitB 1 402 (backD P R a) := by
  have l := h.len
  have big : ∀ z : Int, 0 ≤ z ∧ z ≤ 2 ^ 108 → z.natAbs < 2 ^ 200 := fun z hz => by
    have : (2 : Int) ^ 108 < 2 ^ 200 := by decide
    omega
  have one : ∀ u v : Int, 0 ≤ u ∧ u ≤ 2 ^ 108 → 0 ≤ v ∧ v ≤ 2 ^ 108 → FitB 1 402 (.tuple [.int u, .int v]) := fun u v hu hv => FitB.tuple (FitsB.cons (FitB.int (big u hu)) (FitsB.cons (FitB.int (big v hv)) (FitsB.nil (w := 0))))
  have p := (ray1 hp h 0).pw R.length (by omega)
  rw [numD_eq hp, backD_eq hp]
  exact ⟨one _ _ ((ray1 hp h a).V _ (by omega)) (by omega), one _ _ ((ray2 hp h _).V _ (by omega)) (by omega)⟩
theorem t12 (hp : PB P b) (h : Rr P R) (ha : a < R.length) (hh : En.nx (c0 :: c1 :: c2 :: (.d (tupD P)) :: c4 :: c5 :: c6 :: (.d (tupD R)) :: c8 :: (.d (.int (a : Nat))) :: c10 :: c11 :: c12 :: c13 :: c14 :: c15 :: c16 :: c17 :: c18 :: c19 :: (.d (pairD P R a)) :: c21 :: c22 :: c23 :: c24 :: c25 :: c26 :: c27 :: c28 :: c29 :: Sl.un :: Sl.un :: Sl.un :: Sl.un :: [])) : S_law_12 En (c0 :: c1 :: c2 :: (.d (tupD P)) :: c4 :: c5 :: c6 :: (.d (tupD R)) :: c8 :: (.d (.int (a : Nat))) :: c10 :: c11 :: c12 :: c13 :: c14 :: c15 :: c16 :: c17 :: c18 :: c19 :: (.d (pairD P R a)) :: c21 :: c22 :: c23 :: c24 :: c25 :: c26 :: c27 :: c28 :: c29 :: Sl.un :: Sl.un :: Sl.un :: Sl.un :: []) := by
  have eg : R.getD a 0 = R[a] := by rw [List.getD_eq_getElem?_getD, List.getElem?_eq_getElem ha]; rfl
  have f := fitN hp h a
  have g : FitB 2 806 (pairD P R a) := by
    unfold pairD
    split
    · exact FitB.tuple (FitsB.cons f.1 (FitsB.cons f.2 (FitsB.nil (w := 0))))
    · exact FitB.tuple (FitsB.cons f.2 (FitsB.cons f.1 (FitsB.nil (w := 0))))
  have sh := g.shownOk (by decide) (by decide)
  refine ⟨rfl, w_thread_numbers hp.ok h.ok ha ?_⟩
  rw [← eg]
  exact ⟨sh, sh, same_str hh⟩
theorem t13 (hp : PB P b) (h : Rr P R) (hh : En.nx (c0 :: c1 :: c2 :: (.d (tupD P)) :: c4 :: c5 :: c6 :: (.d (tupD R)) :: c8 :: (.d (.int (a : Nat))) :: c10 :: c11 :: c12 :: c13 :: c14 :: c15 :: (.d (.int (RY.num P R ((a + 1) % R.length)))) :: (.d (.int (RY.bot P R))) :: c18 :: c19 :: c20 :: c21 :: c22 :: c23 :: c24 :: c25 :: c26 :: c27 :: c28 :: c29 :: Sl.un :: Sl.un :: Sl.un :: Sl.un :: [])) : S_law_13 En (c0 :: c1 :: c2 :: (.d (tupD P)) :: c4 :: c5 :: c6 :: (.d (tupD R)) :: c8 :: (.d (.int (a : Nat))) :: c10 :: c11 :: c12 :: c13 :: c14 :: c15 :: c16 :: c17 :: c18 :: c19 :: c20 :: c21 :: c22 :: c23 :: c24 :: c25 :: c26 :: c27 :: c28 :: c29 :: Sl.un :: Sl.un :: Sl.un :: Sl.un :: []) := by
  have l := List.length_pos_iff.mpr h.ok.ne
  have e1 : (((R.map PyData.int).length : Nat) : Int) = (R.length : Nat) := by rw [List.length_map]
  have hm : (a + 1) % R.length < R.length := Nat.mod_lt _ l
  refine ⟨by rw [e1]; omega, rfl, ?_⟩
  have e2 : ((a : Int) + 1).fmod (((R.map PyData.int).length : Nat) : Int) = (((a + 1) % R.length : Nat) : Int) := by
    rw [e1, fmod_nat]
    exact (Int.natCast_emod (a + 1) R.length).symm
  rw [e2]
  exact w_ray_number hp.ok h.ok (Nat.le_of_lt hm) hh
theorem t14 (hp : PB P b) (h : Rr P R) (ha : a < R.length) (hh : En.nx (c0 :: c1 :: c2 :: c3 :: (.d (.int b)) :: c5 :: c6 :: c7 :: c8 :: c9 :: (.d (lstD ((List.range (3 * R.length)).map (RY.dig P (RY.fw R a))))) :: c11 :: c12 :: c13 :: (.d (.list [numD P R a, backD P R a])) :: c15 :: (.d (.int (RY.num P R ((a + 1) % R.length)))) :: (.d (.int (RY.bot P R))) :: c18 :: c19 :: c20 :: c21 :: c22 :: c23 :: c24 :: c25 :: c26 :: c27 :: c28 :: c29 :: Sl.un :: Sl.un :: Sl.un :: Sl.un :: [])) : S_law_14 En (c0 :: c1 :: c2 :: c3 :: (.d (.int b)) :: c5 :: c6 :: c7 :: c8 :: c9 :: (.d (lstD ((List.range (3 * R.length)).map (RY.dig P (RY.fw R a))))) :: c11 :: c12 :: c13 :: (.d (.list [numD P R a, backD P R a])) :: c15 :: (.d (.int (RY.num P R ((a + 1) % R.length)))) :: (.d (.int (RY.bot P R))) :: c18 :: c19 :: c20 :: c21 :: c22 :: c23 :: c24 :: c25 :: c26 :: c27 :: c28 :: c29 :: Sl.un :: Sl.un :: Sl.un :: Sl.un :: []) := by
  have l := h.len
  have lp := List.length_pos_iff.mpr h.ok.ne
  have bd : ∀ a, 0 ≤ RY.num P R a ∧ RY.num P R a ≤ 2 ^ 108 := fun a => by
    have := (ray1 hp h a).V R.length (by omega)
    rw [hp.eq] at this
    exact this
  have bb : 0 ≤ RY.bot P R ∧ RY.bot P R ≤ 2 ^ 108 := by
    have := (ray1 hp h 0).pw R.length (by omega)
    rw [hp.eq] at this
    unfold RY.bot
    omega
  have hb := (ray1 hp h a).hb
  have hx := (ray1 hp h a).hx 0
  have on := RY.num_on P R a
  rw [← hp.eq] at on
  have a0 : atI ((List.range (3 * R.length)).map (RY.dig P (RY.fw R a))) (0 : Int) = some (RY.dig P (RY.fw R a) 0) := s_at (k := 0) (by omega)
  refine ⟨mok (bd _) bb, ?_⟩
  refine ⟨.inl (.inl ⟨by omega, by omega⟩), ?_⟩
  refine wD_at a0 ?_
  refine ⟨.inl (.inl ⟨by omega, by omega⟩), ?_⟩
  refine ⟨?_, ?_⟩
  · rw [← on]; exact mok (bd _) bb
  · refine iteN (fun c => absurd ?_ c) fun _ => hh
    rw [on]
end
end K13

namespace K13
open PySem PySem.Spec PyProof.Rows L2 DL FG CV RZ
section
variable {P R : List Int} {a : Nat} {b : Int} {En : EndsD} {c0 c1 c2 c3 c4 c5 c6 c7 c8 c9 c10 c11 c12 c13 c14 c15 c16 c17 c18 c19 c20 c21 c22 c23 c24 c25 c26 c27 c28 c29 : Sl}
def EntD (b : Int) (d : D) : Prop := ∃ t u n x, Ent b t u n x ∧ d = .tuple [.tuple [.int t, .int u], lstD ((List.range n).map x)]
structure Kn (b : Int) (kvs : List (Key × D)) (c : Nat) : Prop where
  len : kvs.length ≤ c
  val : ∀ kv ∈ kvs, ∃ ds, kv.2 = .list ds ∧ ds ≠ [] ∧ ds.length ≤ c ∧ ∀ d ∈ ds, EntD b d
theorem Kn.mono {kvs : List (Key × D)} {c c' : Nat} (h : Kn b kvs c) (hc : c ≤ c') : Kn b kvs c' := ⟨Nat.le_trans h.len hc, fun kv hk => by obtain ⟨ds, h1, h2, h3, h4⟩ := h.val kv hk; exact ⟨ds, h1, h2, by omega, h4⟩⟩
theorem kn_get {kvs : List (Key × D)} {c : Nat} (h : Kn b kvs c) (k : Key) : ∃ ds, (valD kvs k).getD (.list []) = .list ds ∧ ds.length ≤ c ∧ ∀ d ∈ ds, EntD b d := by
  unfold valD
  cases e : kvs.find? fun kv => decide (kv.1 = k) with
  | none => exact ⟨[], rfl, Nat.zero_le _, fun d hd => by cases hd⟩
  | some kv =>
    obtain ⟨ds, h1, h2, h3, h4⟩ := h.val kv (List.mem_of_find?_eq_some e)
    exact ⟨ds, h1, h3, h4⟩
theorem kn_put {kvs : List (Key × D)} {c : Nat} (h : Kn b kvs c) (k : Key) {ds : List D} (h1 : ds ≠ []) (h2 : ds.length ≤ c + 1) (h3 : ∀ d ∈ ds, EntD b d) : Kn b (putD kvs k (.list ds)) (c + 1) := by
  unfold putD
  split
  · refine ⟨by rw [List.length_map]; exact Nat.le_succ_of_le h.len, fun kv hk => ?_⟩
    obtain ⟨kv', hm, rfl⟩ := List.mem_map.mp hk
    split
    · exact ⟨ds, rfl, h1, h2, h3⟩
    · exact (h.mono (Nat.le_succ c)).val kv' hm
  · refine ⟨by rw [List.length_append]; have := h.len; simp; omega, fun kv hk => ?_⟩
    rcases List.mem_append.mp hk with hk | hk
    · exact (h.mono (Nat.le_succ c)).val kv hk
    · rw [List.mem_singleton] at hk
      subst hk
      exact ⟨ds, rfl, h1, h2, h3⟩
theorem thrice {p : Nat} {x : Nat → Int} (h : RY.Per x p) : ∀ k m, x (p * k + m) = x m
  | 0, m => by rw [Nat.mul_zero, Nat.zero_add]
  | k + 1, m => by rw [show p * (k + 1) + m = p + (p * k + m) by rw [Nat.mul_succ]; omega, h, thrice h k m]
theorem rep3 {p n : Nat} {x : Nat → Int} (h : RY.Per x p) (hn : n = 3 * p) : (List.replicate 3 ((List.range n).map x)).flatten = (List.range (9 * p)).map x := by
  have one : ∀ k, (List.range n).map x = (List.range' (n * k) n).map x := fun k => by
    apply List.ext_getElem?
    intro i
    rw [List.getElem?_map, List.getElem?_map]
    by_cases hi : i < n
    · rw [List.getElem?_range hi, List.getElem?_range' hi]
      show some (x i) = some (x (n * k + 1 * i))
      rw [hn, show 3 * p * k + 1 * i = p * (3 * k) + i by rw [Nat.one_mul, Nat.mul_comm 3 p, Nat.mul_assoc], thrice h]
    · rw [List.getElem?_eq_none (by rw [List.length_range]; omega), List.getElem?_eq_none (by rw [List.length_range']; omega)]
  have e0 := one 0
  have e1 := one 1
  have e2 := one 2
  have : (List.range' (n * 0) n).map x ++ ((List.range' (n * 1) n).map x ++ (List.range' (n * 2) n).map x) = (List.range (9 * p)).map x := by
    rw [← List.map_append, ← List.map_append]
    congr 1
    rw [show n * 2 = n * 1 + n by omega, show n * 1 = n * 0 + n by omega, List.range'_append_1, List.range'_append_1, List.range_eq_range']
    congr 1; omega
  rw [← e0, ← e1, ← e2] at this
  rw [← this]
  show (List.range n).map x ++ ((List.range n).map x ++ ((List.range n).map x ++ [])) = _
  rw [List.append_nil]
theorem rep_ints3 (xs : List Int) : (PyData.list (List.replicate 3 (xs.map PyData.int)).flatten) = lstD (List.replicate 3 xs).flatten := by unfold lstD; rw [List.map_flatten, List.map_replicate]
theorem kn_ent (hp : PB P b) (h : Rr P R) (a : Nat) : EntD b (.tuple [numD P R a, lstD ((List.range (9 * R.length)).map (RY.dig P (RY.fw R a)))]) := by
  obtain ⟨l, l1, l2, l3, l4⟩ := h.eff
  have r := ray1 hp h a
  refine ⟨_, _, 9 * R.length, RY.dig P (RY.fw R a), ⟨⟨R.length, l, r.hL.1, r.hL.2, l1, l2, r.per, l4 a, rfl, rfl, by omega, by have := h.len; omega⟩, r.nn⟩, ?_⟩
  rw [numD_eq hp]
theorem t15 {kvs : List (Key × D)} {c : Nat} (hp : PB P b) (h : Rr P R) (ha : a < R.length) (hk : Kn b kvs c) (hc : c ≤ 900) (hh : ∀ kvs, Kn b kvs (c + 1) → En.nx (c0 :: c1 :: c2 :: c3 :: c4 :: c5 :: (.own true (.dic kvs)) :: (.d (tupD R)) :: c8 :: (.d (.int (a : Nat))) :: (.d (lstD ((List.range (3 * R.length)).map (RY.dig P (RY.fw R a))))) :: c11 :: c12 :: c13 :: (.d (.list [numD P R a, backD P R a])) :: c15 :: c16 :: c17 :: c18 :: c19 :: c20 :: c21 :: c22 :: c23 :: c24 :: c25 :: c26 :: c27 :: c28 :: c29 :: Sl.un :: Sl.un :: Sl.un :: Sl.un :: [])) : S_law_15 En (c0 :: c1 :: c2 :: c3 :: c4 :: c5 :: (.own true (.dic kvs)) :: (.d (tupD R)) :: c8 :: (.d (.int (a : Nat))) :: (.d (lstD ((List.range (3 * R.length)).map (RY.dig P (RY.fw R a))))) :: c11 :: c12 :: c13 :: (.d (.list [numD P R a, backD P R a])) :: c15 :: c16 :: c17 :: c18 :: c19 :: c20 :: c21 :: c22 :: c23 :: c24 :: c25 :: c26 :: c27 :: c28 :: c29 :: Sl.un :: Sl.un :: Sl.un :: Sl.un :: []) := by
  refine ⟨rfl, ?_⟩
  refine wD_at (atI_at R a ha) ?_
  refine ⟨Nat.zero_le _, .inl R[a], rfl, ?_⟩
  obtain ⟨ds, e1, e2, e3⟩ := kn_get hk (.inl R[a])
  have l := h.len
  have el : (((List.range (3 * R.length)).map (RY.dig P (RY.fw R a))).map PyData.int).length = 3 * R.length := by rw [List.length_map, List.length_map, List.length_range]
  rw [e1]
  have e9 : 3 * R.length * (3 : Int).toNat ≤ 1000 := by rw [show (3 : Int).toNat = 3 from rfl]; omega
  refine ⟨⟨by decide, by decide, by rw [el]; exact sz e9⟩, ?_⟩
  refine ⟨sz (by show 2 ≤ 1000; omega), sz (by show 1 ≤ 1000; omega), ?_⟩
  refine ⟨(by show ds.length + 1 ≤ sizeLine; exact sz (by omega)), ?_⟩
  refine ⟨rfl, ?_⟩
  refine wD_at (atI_at R a ha) ?_
  refine ⟨.inl R[a], rfl, small1000 (by have := hk.len; omega), ?_⟩
  have key := kn_put hk (.inl R[a]) (ds := ds ++ [.tuple [numD P R a, lstD ((List.range (9 * R.length)).map (RY.dig P (RY.fw R a)))]]) (by simp) (by simp; omega) fun d hd => by
    rcases List.mem_append.mp hd with hd | hd
    · exact e3 d hd
    · rw [List.mem_singleton] at hd; subst hd; exact kn_ent hp h a
  have := hh _ key
  rw [← rep3 (RY.dig_per P R a) rfl, ← rep_ints3] at this
  exact this
end
end K13

namespace K13
open PySem PySem.Spec PyProof.Rows L2 DL FG CV RZ
section
variable {P R : List Int} {a : Nat} {b : Int} {En : EndsD} {c0 c1 c2 c3 c4 c5 c6 c7 c8 c9 c10 c11 c12 c13 c14 c15 c16 c17 c18 c19 c20 c21 c22 c23 c24 c25 c26 c27 c28 c29 : Sl}
theorem w__law_undoneT {p : Ret → List Sl → Prop} (ns : List Int) (h : p (.d (tupD (und ns))) [.d (tupD ns)]) : W__law_undone [.d (tupD ns)] p :=
  ⟨rfl, lcW_mapE PyData.int (fun x => .int (0 - x)) ns.reverse (List.map_reverse ..).symm rfl (fun x _ q h => h) (by rw [und_eq0]; exact h)⟩
theorem lap {kvs : List (Key × D)} {c : Nat} (hp : PB P b) (h : Rr P R) (ha : a < R.length) (hk : Kn b kvs c) (hc : c ≤ 900)
    (hh : ∀ kvs c10 c11 c12 c13 c14 c15 c16 c17 c18 c19 c20, Kn b kvs (c + 1) → En.nx (c0 :: c1 :: c2 :: (.d (tupD P)) :: (.d (.int b)) :: c5 :: (.own true (.dic kvs)) :: (.d (tupD R)) :: (.d (tupD (und R))) :: (.d (.int (a : Nat))) :: c10 :: c11 :: c12 :: c13 :: c14 :: c15 :: c16 :: c17 :: c18 :: c19 :: c20 :: c21 :: c22 :: c23 :: c24 :: c25 :: c26 :: c27 :: c28 :: c29 :: Sl.un :: Sl.un :: Sl.un :: Sl.un :: [])) : B_law_3 En (c0 :: c1 :: c2 :: (.d (tupD P)) :: (.d (.int b)) :: c5 :: (.own true (.dic kvs)) :: (.d (tupD R)) :: (.d (tupD (und R))) :: (.d (.int (a : Nat))) :: c10 :: c11 :: c12 :: c13 :: c14 :: c15 :: c16 :: c17 :: c18 :: c19 :: c20 :: c21 :: c22 :: c23 :: c24 :: c25 :: c26 :: c27 :: c28 :: c29 :: Sl.un :: Sl.un :: Sl.un :: Sl.un :: []) := by
  refine i_seq (t5 hp h ?_)
  refine n_seq (t6 hp h ha ?_)
  refine n_seq ?_
  refine n_seq (t8 hp h fun c13 => ?_)
  refine n_seq (t9 hp h ha ?_)
  refine n_seq (t10 hp h ha fun c13 c15 c16 c17 c18 c19 => ?_)
  refine n_seq (t11 hp h ha ?_)
  refine n_seq (t12 hp h ha ?_)
  refine n_seq (t13 hp h ?_)
  refine n_seq (t14 hp h ha ?_)
  exact n_last (t15 hp h ha hk hc fun kvs hk => hh _ _ _ _ _ _ _ _ _ _ _ _ hk)
theorem one_ring {kvs : List (Key × D)} {c : Nat} (hp : PB P b) (h : Rr P R) (hk : Kn b kvs c) (hc : c + 12 ≤ 900)
    (hh : ∀ kvs c8 c9 c10 c11 c12 c13 c14 c15 c16 c17 c18 c19 c20, Kn b kvs (c + 12) → En.nx (c0 :: c1 :: c2 :: (.d (tupD P)) :: (.d (.int b)) :: c5 :: (.own true (.dic kvs)) :: (.d (tupD R)) :: c8 :: c9 :: c10 :: c11 :: c12 :: c13 :: c14 :: c15 :: c16 :: c17 :: c18 :: c19 :: c20 :: c21 :: c22 :: c23 :: c24 :: c25 :: c26 :: c27 :: c28 :: c29 :: Sl.un :: Sl.un :: Sl.un :: Sl.un :: [])) : B_law_4 En (c0 :: c1 :: c2 :: (.d (tupD P)) :: (.d (.int b)) :: c5 :: (.own true (.dic kvs)) :: (.d (tupD R)) :: c8 :: c9 :: c10 :: c11 :: c12 :: c13 :: c14 :: c15 :: c16 :: c17 :: c18 :: c19 :: c20 :: c21 :: c22 :: c23 :: c24 :: c25 :: c26 :: c27 :: c28 :: c29 :: Sl.un :: Sl.un :: Sl.un :: Sl.un :: []) := by
  have e1 : (((R.map PyData.int).length : Nat) : Int) = (R.length : Nat) := by rw [List.length_map]
  have hl := h.len
  refine i_seq ⟨rfl, w__law_undoneT R ?_⟩
  refine ⟨⟨by decide, by decide, by rw [e1]; omega, by rw [e1]; omega⟩, by rw [e1]; exact sz (by omega), ?_⟩
  rw [e1, Int.sub_zero, Int.toNat_natCast, rangeD_eq]
  refine forW_ind (i := 9) (t := B_law_3) (fun (i : Nat) => PyData.int (0 + (i : Int))) (fun r ρ => ∃ i kvs c9 c10 c11 c12 c13 c14 c15 c16 c17 c18 c19 c20, r = (List.range R.length).drop i ∧ i ≤ R.length ∧ Kn b kvs (c + i) ∧ ρ = (c0 :: c1 :: c2 :: (.d (tupD P)) :: (.d (.int b)) :: c5 :: (.own true (.dic kvs)) :: (.d (tupD R)) :: (.d (tupD (und R))) :: c9 :: c10 :: c11 :: c12 :: c13 :: c14 :: c15 :: c16 :: c17 :: c18 :: c19 :: c20 :: c21 :: c22 :: c23 :: c24 :: c25 :: c26 :: c27 :: c28 :: c29 :: Sl.un :: Sl.un :: Sl.un :: Sl.un :: [])) (fun j r ρ N hJ hN => ?_) (fun ρ hJ => ?_) _ _ ⟨0, kvs, c9, c10, c11, c12, c13, c14, c15, c16, c17, c18, c19, c20, rfl, Nat.zero_le _, hk, rfl⟩
  · obtain ⟨i, kvs, c9, c10, c11, c12, c13, c14, c15, c16, c17, c18, c19, c20, hr, hi, hk, rfl⟩ := hJ
    obtain ⟨rfl, hr, hlt⟩ := range_drop hr
    rw [Int.zero_add]
    exact lap (c10 := c10) (c11 := c11) (c12 := c12) (c13 := c13) (c14 := c14) (c15 := c15) (c16 := c16) (c17 := c17) (c18 := c18) (c19 := c19) (c20 := c20) hp h hlt hk (by omega) fun kvs c10 c11 c12 c13 c14 c15 c16 c17 c18 c19 c20 hk => hN _ ⟨j + 1, kvs, _, c10, c11, c12, c13, c14, c15, c16, c17, c18, c19, c20, hr, by omega, hk, rfl⟩
  · obtain ⟨i, kvs, c9, c10, c11, c12, c13, c14, c15, c16, c17, c18, c19, c20, hr, hi, hk, rfl⟩ := hJ
    exact hh _ _ _ _ _ _ _ _ _ _ _ _ _ _ (hk.mono (by omega))
theorem all_rings {Rs : List (List Int)} (hp : PB P b) (h : ∀ R ∈ Rs, Rr P R) (hl : Rs.length ≤ 10) (hh : ∀ kvs c7 c8 c9 c10 c11 c12 c13 c14 c15 c16 c17 c18 c19 c20, Kn b kvs 120 → En.nx (c0 :: c1 :: c2 :: (.d (tupD P)) :: (.d (.int b)) :: (.d (.list (Rs.map tupD))) :: (.own true (.dic kvs)) :: c7 :: c8 :: c9 :: c10 :: c11 :: c12 :: c13 :: c14 :: c15 :: c16 :: c17 :: c18 :: c19 :: c20 :: c21 :: c22 :: c23 :: c24 :: c25 :: c26 :: c27 :: c28 :: c29 :: Sl.un :: Sl.un :: Sl.un :: Sl.un :: [])) :
    S_law_26 En (c0 :: c1 :: c2 :: (.d (tupD P)) :: (.d (.int b)) :: (.d (.list (Rs.map tupD))) :: (.own true (.dic [])) :: c7 :: c8 :: c9 :: c10 :: c11 :: c12 :: c13 :: c14 :: c15 :: c16 :: c17 :: c18 :: c19 :: c20 :: c21 :: c22 :: c23 :: c24 :: c25 :: c26 :: c27 :: c28 :: c29 :: Sl.un :: Sl.un :: Sl.un :: Sl.un :: []) := by
  refine forW_ind (i := 7) (t := B_law_4) tupD (fun r ρ => ∃ kvs c7 c8 c9 c10 c11 c12 c13 c14 c15 c16 c17 c18 c19 c20, (∀ R ∈ r, Rr P R) ∧ r.length ≤ 10 ∧ Kn b kvs (12 * (10 - r.length)) ∧ ρ = (c0 :: c1 :: c2 :: (.d (tupD P)) :: (.d (.int b)) :: (.d (.list (Rs.map tupD))) :: (.own true (.dic kvs)) :: c7 :: c8 :: c9 :: c10 :: c11 :: c12 :: c13 :: c14 :: c15 :: c16 :: c17 :: c18 :: c19 :: c20 :: c21 :: c22 :: c23 :: c24 :: c25 :: c26 :: c27 :: c28 :: c29 :: Sl.un :: Sl.un :: Sl.un :: Sl.un :: [])) (fun R r ρ N hJ hN => ?_) (fun ρ hJ => ?_) Rs _ ⟨[], c7, c8, c9, c10, c11, c12, c13, c14, c15, c16, c17, c18, c19, c20, h, hl, ⟨Nat.zero_le _, fun kv hk => by cases hk⟩, rfl⟩
  · obtain ⟨kvs, c7, c8, c9, c10, c11, c12, c13, c14, c15, c16, c17, c18, c19, c20, hr, h10, hk, rfl⟩ := hJ
    rw [List.length_cons] at *
    exact one_ring (c8 := c8) (c9 := c9) (c10 := c10) (c11 := c11) (c12 := c12) (c13 := c13) (c14 := c14) (c15 := c15) (c16 := c16) (c17 := c17) (c18 := c18) (c19 := c19) (c20 := c20) hp (hr R List.mem_cons_self) hk (by omega) fun kvs c8 c9 c10 c11 c12 c13 c14 c15 c16 c17 c18 c19 c20 hk => hN _ ⟨kvs, _, c8, c9, c10, c11, c12, c13, c14, c15, c16, c17, c18, c19, c20, fun R hR => hr R (List.mem_cons_of_mem _ hR), by omega, hk.mono (by omega), rfl⟩
  · obtain ⟨kvs, c7, c8, c9, c10, c11, c12, c13, c14, c15, c16, c17, c18, c19, c20, hr, h10, hk, rfl⟩ := hJ
    exact hh _ _ _ _ _ _ _ _ _ _ _ _ _ _ _ (hk.mono (by simp))
/-! pairs of rays from one band -/
def mism : List Int → List Int → List D
  | x :: xs, y :: ys => if x ≠ y then .tuple [.int x, .int y] :: mism xs ys else mism xs ys
  | _, _ => []
theorem mism_lc {fin : List D → DL.Env → Prop} : ∀ (xs ys : List Int) (acc : List D), fin (acc ++ mism xs ys) (c0 :: c1 :: c2 :: c3 :: c4 :: c5 :: c6 :: c7 :: c8 :: c9 :: c10 :: c11 :: c12 :: c13 :: c14 :: c15 :: c16 :: c17 :: c18 :: c19 :: c20 :: c21 :: c22 :: c23 :: c24 :: c25 :: c26 :: c27 :: c28 :: c29 :: Sl.un :: Sl.un :: Sl.un :: Sl.un :: []) →
    lcW (.tup [.nm 31, .nm 32]) (tB' (e2 wNe (eV 31) (eV 32))) (eTup (aCons (eV 31) (aCons (eV 32) aNil))) [31, 32] fin (zipD (xs.map PyData.int) (ys.map PyData.int)) acc (c0 :: c1 :: c2 :: c3 :: c4 :: c5 :: c6 :: c7 :: c8 :: c9 :: c10 :: c11 :: c12 :: c13 :: c14 :: c15 :: c16 :: c17 :: c18 :: c19 :: c20 :: c21 :: c22 :: c23 :: c24 :: c25 :: c26 :: c27 :: c28 :: c29 :: Sl.un :: Sl.un :: Sl.un :: Sl.un :: [])
  | [], ys, acc, h => by
    unfold mism at h
    rw [List.append_nil] at h
    exact h
  | x :: xs, [], acc, h => by
    unfold mism at h
    rw [List.append_nil] at h
    exact h
  | x :: xs, y :: ys, acc, h => by
    unfold mism at h
    refine iteN (fun n => ?_) fun e => ?_
    · rw [if_pos n] at h
      refine ⟨sz (by show 2 ≤ 1000; omega), ?_⟩
      refine mism_lc xs ys (acc ++ [.tuple [.int x, .int y]]) ?_
      rw [List.append_assoc]
      exact h
    · rw [if_neg (fun n => n e)] at h
      exact mism_lc xs ys acc h
theorem mism_first (x y : Nat → Int) : ∀ (n m s : Nat), ((∀ j, j < n → j < m → x (s + j) = y (s + j)) ∧ mism ((List.range' s n).map x) ((List.range' s m).map y) = []) ∨
    ∃ k r, k < n ∧ k < m ∧ (∀ j, j < k → x (s + j) = y (s + j)) ∧ x (s + k) ≠ y (s + k) ∧ mism ((List.range' s n).map x) ((List.range' s m).map y) = .tuple [.int (x (s + k)), .int (y (s + k))] :: r
  | 0, m, s => .inl ⟨fun j h => by omega, rfl⟩
  | n + 1, 0, s => .inl ⟨fun j h h' => by omega, rfl⟩
  | n + 1, m + 1, s => by
    rw [List.range'_succ, List.range'_succ, List.map_cons, List.map_cons]
    unfold mism
    by_cases c : x s = y s
    · rw [if_neg (fun q => q c)]
      rcases mism_first x y n m (s + 1) with ⟨h1, h2⟩ | ⟨k, r, h1, h2, h3, h4, h5⟩
      · refine .inl ⟨fun j h h' => ?_, h2⟩
        cases j with
        | zero => exact c
        | succ j => have := h1 j (by omega) (by omega); rw [show s + 1 + j = s + (j + 1) by omega] at this; exact this
      · refine .inr ⟨k + 1, r, by omega, by omega, fun j hj => ?_, ?_, ?_⟩
        · cases j with
          | zero => exact c
          | succ j => have := h3 j (by omega); rw [show s + 1 + j = s + (j + 1) by omega] at this; exact this
        · rw [show s + (k + 1) = s + 1 + k by omega]; exact h4
        · rw [show s + (k + 1) = s + 1 + k by omega]; exact h5
    · rw [if_pos c]
      exact .inr ⟨0, _, by omega, by omega, fun j h => by omega, c, rfl⟩
theorem ent_mok {t u t' u' : Int} {k m : Nat} {x y : Nat → Int} (hb : 2 ≤ b ∧ b ≤ 8) (h : Ent b t u k x) (g : Ent b t' u' m y) : mulOk t u' := by
  obtain ⟨q, l, h1, h2, h3, h4, h5, h6, rfl, rfl, h7, h8⟩ := h.ex
  obtain ⟨q', l', g1, g2, g3, g4, g5, g6, rfl, rfl, g7, g8⟩ := g.ex
  have a1 := RY.V_nn (b := b) (by omega) h.dg q
  have a2 := RY.V_lt_pow (b := b) (by omega) h.dg q
  have a3 := pw_nat (b := b) (n := q) (by omega) (by omega)
  have a4 := pw_nat (b := b) (n := q') (by omega) (by omega)
  have a5 := RY.pow_pos' (b := b) (by omega) q'
  exact mok ⟨a1, by omega⟩ ⟨by omega, by omega⟩
theorem p16 {ds : List D} (hd : ∀ d ∈ ds, EntD b d) (h0 : ds ≠ []) (hl : ds.length ≤ 1000) (hh : ∀ t u k x t' u' m y, Ent b t u k x → Ent b t' u' m y → En.nx (c0 :: (.own true .src) :: c2 :: c3 :: c4 :: c5 :: c6 :: c7 :: c8 :: c9 :: c10 :: c11 :: c12 :: c13 :: c14 :: (.d (lstD ((List.range k).map x))) :: c16 :: c17 :: c18 :: c19 :: c20 :: c21 :: (.d (.list ds)) :: (.d (.tuple [.int t, .int u])) :: (.d (.tuple [.int t', .int u'])) :: (.d (lstD ((List.range m).map y))) :: c26 :: c27 :: c28 :: c29 :: Sl.un :: Sl.un :: Sl.un :: Sl.un :: [])) : S_law_16 En (c0 :: (.own true .src) :: c2 :: c3 :: c4 :: c5 :: c6 :: c7 :: c8 :: c9 :: c10 :: c11 :: c12 :: c13 :: c14 :: c15 :: c16 :: c17 :: c18 :: c19 :: c20 :: c21 :: (.d (.list ds)) :: c23 :: c24 :: c25 :: c26 :: c27 :: c28 :: c29 :: Sl.un :: Sl.un :: Sl.un :: Sl.un :: []) := by
  refine ⟨rfl, w__law_of ds h0 hl fun d1 m1 => ⟨rfl, w__law_of ds h0 hl fun d2 m2 => ⟨sz (by show 2 ≤ 1000; omega), ?_⟩⟩⟩
  obtain ⟨t, u, k, x, g1, rfl⟩ := hd d1 m1
  obtain ⟨t', u', m, y, g2, rfl⟩ := hd d2 m2
  exact hh t u k x t' u' m y g1 g2
section
variable {ds : List D} {t u t' u' : Int} {k m : Nat} {x y : Nat → Int}
theorem p17 (hh : En.nx (c0 :: (.own true .src) :: c2 :: c3 :: c4 :: c5 :: c6 :: c7 :: c8 :: c9 :: c10 :: c11 :: c12 :: c13 :: c14 :: (.d (lstD ((List.range k).map x))) :: c16 :: c17 :: c18 :: c19 :: c20 :: c21 :: (.d (.list ds)) :: (.d (.tuple [.int t, .int u])) :: (.d (.tuple [.int t', .int u'])) :: (.d (lstD ((List.range m).map y))) :: (.d (.list ((mism ((List.range k).map x) ((List.range m).map y)).take 1))) :: c27 :: c28 :: c29 :: Sl.un :: Sl.un :: Sl.un :: Sl.un :: [])) : S_law_17 En (c0 :: (.own true .src) :: c2 :: c3 :: c4 :: c5 :: c6 :: c7 :: c8 :: c9 :: c10 :: c11 :: c12 :: c13 :: c14 :: (.d (lstD ((List.range k).map x))) :: c16 :: c17 :: c18 :: c19 :: c20 :: c21 :: (.d (.list ds)) :: (.d (.tuple [.int t, .int u])) :: (.d (.tuple [.int t', .int u'])) :: (.d (lstD ((List.range m).map y))) :: c26 :: c27 :: c28 :: c29 :: Sl.un :: Sl.un :: Sl.un :: Sl.un :: []) := by
  refine mism_lc ((List.range k).map x) ((List.range m).map y) [] ?_
  rw [List.nil_append]
  have hcut : cutD (mism ((List.range k).map x) ((List.range m).map y)) none (some 1) = (mism ((List.range k).map x) ((List.range m).map y)).take 1 := cut_to _ 1
  rw [← hcut] at hh
  exact hh
theorem p18a (hh : En.nx (c0 :: c1 :: c2 :: c3 :: c4 :: c5 :: c6 :: c7 :: c8 :: c9 :: c10 :: c11 :: c12 :: c13 :: c14 :: c15 :: c16 :: c17 :: c18 :: c19 :: c20 :: c21 :: c22 :: c23 :: c24 :: c25 :: (.d (.list [])) :: (.d (.int 0)) :: c28 :: c29 :: Sl.un :: Sl.un :: Sl.un :: Sl.un :: [])) : S_law_18 En (c0 :: c1 :: c2 :: c3 :: c4 :: c5 :: c6 :: c7 :: c8 :: c9 :: c10 :: c11 :: c12 :: c13 :: c14 :: c15 :: c16 :: c17 :: c18 :: c19 :: c20 :: c21 :: c22 :: c23 :: c24 :: c25 :: (.d (.list [])) :: c27 :: c28 :: c29 :: Sl.un :: Sl.un :: Sl.un :: Sl.un :: []) := ⟨Nat.zero_le _, okLI [], okLI [], hh⟩
theorem p18b {v w : Int} (hh : En.nx (c0 :: c1 :: c2 :: c3 :: c4 :: c5 :: c6 :: c7 :: c8 :: c9 :: c10 :: c11 :: c12 :: c13 :: c14 :: c15 :: c16 :: c17 :: c18 :: c19 :: c20 :: c21 :: c22 :: c23 :: c24 :: c25 :: (.d (.list [.tuple [.int v, .int w]])) :: (.d (.int (if w < v then 1 else -1))) :: c28 :: c29 :: Sl.un :: Sl.un :: Sl.un :: Sl.un :: [])) : S_law_18 En (c0 :: c1 :: c2 :: c3 :: c4 :: c5 :: c6 :: c7 :: c8 :: c9 :: c10 :: c11 :: c12 :: c13 :: c14 :: c15 :: c16 :: c17 :: c18 :: c19 :: c20 :: c21 :: c22 :: c23 :: c24 :: c25 :: (.d (.list [.tuple [.int v, .int w]])) :: c27 :: c28 :: c29 :: Sl.un :: Sl.un :: Sl.un :: Sl.un :: []) := by
  refine ⟨Nat.zero_le _, rfl, rfl, ?_⟩
  refine iteD (fun c => ?_) fun c => ?_
  · rw [if_pos c] at hh; exact hh
  · rw [if_neg c] at hh; exact hh
theorem p19 {v : Int} (hv : RY.sgn (t * u' - t' * u) = v) (r1 : mulOk t u') (r2 : mulOk t' u) (hh : En.nx (c0 :: c1 :: c2 :: c3 :: c4 :: c5 :: c6 :: c7 :: c8 :: c9 :: c10 :: c11 :: c12 :: c13 :: c14 :: c15 :: c16 :: c17 :: c18 :: c19 :: c20 :: c21 :: c22 :: (.d (.tuple [.int t, .int u])) :: (.d (.tuple [.int t', .int u'])) :: c25 :: c26 :: (.d (.int v)) :: c28 :: c29 :: Sl.un :: Sl.un :: Sl.un :: Sl.un :: [])) : S_law_19 En (c0 :: c1 :: c2 :: c3 :: c4 :: c5 :: c6 :: c7 :: c8 :: c9 :: c10 :: c11 :: c12 :: c13 :: c14 :: c15 :: c16 :: c17 :: c18 :: c19 :: c20 :: c21 :: c22 :: (.d (.tuple [.int t, .int u])) :: (.d (.tuple [.int t', .int u'])) :: c25 :: c26 :: (.d (.int v)) :: c28 :: c29 :: Sl.un :: Sl.un :: Sl.un :: Sl.un :: []) := by
  have hv2 : RY.sgn (t' * u - t * u') = 0 - v := by
    rw [← hv]
    unfold RY.sgn
    by_cases q1 : 0 < t * u' - t' * u
    · rw [decide_eq_true q1, decide_eq_false (by omega : ¬ t * u' - t' * u < 0), decide_eq_false (by omega : ¬ 0 < t' * u - t * u'), decide_eq_true (by omega : t' * u - t * u' < 0)]; rfl
    · by_cases q2 : t * u' - t' * u < 0
      · rw [decide_eq_false q1, decide_eq_true q2, decide_eq_true (by omega : 0 < t' * u - t * u'), decide_eq_false (by omega : ¬ t' * u - t * u' < 0)]; rfl
      · rw [decide_eq_false q1, decide_eq_false q2, decide_eq_false (by omega : ¬ 0 < t' * u - t * u'), decide_eq_false (by omega : ¬ t' * u - t * u' < 0)]; rfl
  refine ⟨rfl, w_numbers_order t u t' u' r1 r2 ?_⟩
  rw [hv]
  refine iteN (fun c => absurd rfl c) fun _ => ?_
  refine ⟨rfl, w_numbers_order t' u' t u r2 r1 ?_⟩
  rw [hv2]
  exact iteN (fun c => absurd rfl c) fun _ => hh
end
theorem pair_lap {ds : List D} (hb : 2 ≤ b ∧ b ≤ 8) (hd : ∀ d ∈ ds, EntD b d) (h0 : ds ≠ []) (hl : ds.length ≤ 1000) (hh : ∀ c15 c23 c24 c25 c26 c27, En.nx (c0 :: (.own true .src) :: c2 :: c3 :: c4 :: c5 :: c6 :: c7 :: c8 :: c9 :: c10 :: c11 :: c12 :: c13 :: c14 :: c15 :: c16 :: c17 :: c18 :: c19 :: c20 :: c21 :: (.d (.list ds)) :: c23 :: c24 :: c25 :: c26 :: c27 :: c28 :: c29 :: Sl.un :: Sl.un :: Sl.un :: Sl.un :: [])) : B_law_5 En (c0 :: (.own true .src) :: c2 :: c3 :: c4 :: c5 :: c6 :: c7 :: c8 :: c9 :: c10 :: c11 :: c12 :: c13 :: c14 :: c15 :: c16 :: c17 :: c18 :: c19 :: c20 :: c21 :: (.d (.list ds)) :: c23 :: c24 :: c25 :: c26 :: c27 :: c28 :: c29 :: Sl.un :: Sl.un :: Sl.un :: Sl.un :: []) := by
  refine i_seq (p16 hd h0 hl fun t u k x t' u' m y g1 g2 => ?_)
  refine n_seq (p17 ?_)
  have fm := mism_first x y k m 0
  rw [← List.range_eq_range', ← List.range_eq_range'] at fm
  have r1 := ent_mok hb g1 g2
  have r2 := ent_mok hb g2 g1
  rcases fm with ⟨e1, e2⟩ | ⟨q, r, q1, q2, q3, q4, q5⟩
  · rw [e2]
    exact n_seq (p18a (n_last (p19 (RY.sgn_zero (ent_eq g1 g2 fun j hj hj' => by have := e1 j hj hj'; rw [Nat.zero_add] at this; exact this)) r1 r2 (hh _ _ _ _ _ _))))
  · rw [q5, Nat.zero_add]
    rw [Nat.zero_add] at q4
    have q3 : ∀ j, j < q → x j = y j := fun j hj => by have := q3 j hj; rw [Nat.zero_add] at this; exact this
    refine n_seq (p18b ?_)
    split
    · rename_i c
      refine n_last (p19 (RY.sgn_pos ?_) r1 r2 (hh _ _ _ _ _ _))
      have := ent_lt hb.1 g2 g1 (fun j hj => (q3 j hj).symm) c
      omega
    · rename_i c
      exact n_last (p19 (RY.sgn_neg (ent_lt hb.1 g1 g2 q3 (by omega))) r1 r2 (hh _ _ _ _ _ _))
theorem pairs3 {ds : List D} (hb : 2 ≤ b ∧ b ≤ 8) (hd : ∀ d ∈ ds, EntD b d) (h0 : ds ≠ []) (hl : ds.length ≤ 1000) (hh : ∀ c13 c15 c23 c24 c25 c26 c27, En.nx (c0 :: (.own true .src) :: c2 :: c3 :: c4 :: c5 :: c6 :: c7 :: c8 :: c9 :: c10 :: c11 :: c12 :: c13 :: c14 :: c15 :: c16 :: c17 :: c18 :: c19 :: c20 :: c21 :: (.d (.list ds)) :: c23 :: c24 :: c25 :: c26 :: c27 :: c28 :: c29 :: Sl.un :: Sl.un :: Sl.un :: Sl.un :: [])) : B_law_6 En (c0 :: (.own true .src) :: c2 :: c3 :: c4 :: c5 :: c6 :: c7 :: c8 :: c9 :: c10 :: c11 :: c12 :: c13 :: c14 :: c15 :: c16 :: c17 :: c18 :: c19 :: c20 :: c21 :: (.d (.list ds)) :: c23 :: c24 :: c25 :: c26 :: c27 :: c28 :: c29 :: Sl.un :: Sl.un :: Sl.un :: Sl.un :: []) := by
  refine ⟨⟨by decide, by decide, by decide, by decide⟩, sz (by decide), ?_⟩
  rw [rangeD_eq]
  refine forW_ind (i := 13) (t := B_law_5) (fun (i : Nat) => PyData.int (0 + (i : Int))) (fun r ρ => ∃ c13 c15 c23 c24 c25 c26 c27, ρ = (c0 :: (.own true .src) :: c2 :: c3 :: c4 :: c5 :: c6 :: c7 :: c8 :: c9 :: c10 :: c11 :: c12 :: c13 :: c14 :: c15 :: c16 :: c17 :: c18 :: c19 :: c20 :: c21 :: (.d (.list ds)) :: c23 :: c24 :: c25 :: c26 :: c27 :: c28 :: c29 :: Sl.un :: Sl.un :: Sl.un :: Sl.un :: [])) (fun j r ρ N hJ hN => ?_) (fun ρ hJ => ?_) _ _ ⟨c13, c15, c23, c24, c25, c26, c27, rfl⟩
  · obtain ⟨c13, c15, c23, c24, c25, c26, c27, rfl⟩ := hJ
    exact pair_lap (c15 := c15) (c23 := c23) (c24 := c24) (c25 := c25) (c26 := c26) (c27 := c27) hb hd h0 hl fun c15 c23 c24 c25 c26 c27 => hN _ ⟨_, c15, c23, c24, c25, c26, c27, rfl⟩
  · obtain ⟨c13, c15, c23, c24, c25, c26, c27, rfl⟩ := hJ
    exact hh _ _ _ _ _ _ _
theorem items_for (hb : 2 ≤ b ∧ b ≤ 8) {c : Nat} (hc : c ≤ 1000) : ∀ (kvs : List (Key × D)) c13 c15 c21 c22 c23 c24 c25 c26 c27, (∀ kv ∈ kvs, ∃ ds, kv.2 = .list ds ∧ ds ≠ [] ∧ ds.length ≤ c ∧ ∀ d ∈ ds, EntD b d) → (∀ c13 c15 c21 c22 c23 c24 c25 c26 c27, En.nx (c0 :: (.own true .src) :: c2 :: c3 :: c4 :: c5 :: c6 :: c7 :: c8 :: c9 :: c10 :: c11 :: c12 :: c13 :: c14 :: c15 :: c16 :: c17 :: c18 :: c19 :: c20 :: c21 :: c22 :: c23 :: c24 :: c25 :: c26 :: c27 :: c28 :: c29 :: Sl.un :: Sl.un :: Sl.un :: Sl.un :: [])) →
    forW (.tup [.nm 21, .nm 22]) B_law_6 En (itemsD kvs) (c0 :: (.own true .src) :: c2 :: c3 :: c4 :: c5 :: c6 :: c7 :: c8 :: c9 :: c10 :: c11 :: c12 :: c13 :: c14 :: c15 :: c16 :: c17 :: c18 :: c19 :: c20 :: c21 :: c22 :: c23 :: c24 :: c25 :: c26 :: c27 :: c28 :: c29 :: Sl.un :: Sl.un :: Sl.un :: Sl.un :: [])
  | [], c13, c15, c21, c22, c23, c24, c25, c26, c27, _, hh => hh _ _ _ _ _ _ _ _ _
  | (k, v) :: r, c13, c15, c21, c22, c23, c24, c25, c26, c27, h, hh => by
    obtain ⟨ds, e, h1, h2, h3⟩ := h (k, v) List.mem_cons_self
    have e : v = .list ds := e
    subst e
    have := pairs3 (En := { En with nx := forW (.tup [.nm 21, .nm 22]) B_law_6 En (itemsD r), ct := forW (.tup [.nm 21, .nm 22]) B_law_6 En (itemsD r), bk := En.nx }) (c0 := c0) (c2 := c2) (c3 := c3) (c4 := c4) (c5 := c5) (c6 := c6) (c7 := c7) (c8 := c8) (c9 := c9) (c10 := c10) (c11 := c11) (c12 := c12) (c14 := c14) (c16 := c16) (c17 := c17) (c18 := c18) (c19 := c19) (c20 := c20) (c28 := c28) (c29 := c29)
      (c13 := c13) (c15 := c15) (c23 := c23) (c24 := c24) (c25 := c25) (c26 := c26) (c27 := c27) (c21 := .d (kD k)) hb h3 h1 (by omega) fun c13 c15 c23 c24 c25 c26 c27 => items_for hb hc r c13 c15 (.d (kD k)) (.d (.list ds)) c23 c24 c25 c26 c27 (fun kv hk => h kv (List.mem_cons_of_mem _ hk)) hh
    exact this
end
end K13

namespace K13
open PySem PySem.Spec PyProof.Rows L2 DL FG CV RZ
section
variable {P R : List Int} {a : Nat} {b : Int} {En : EndsD} {c0 c1 c2 c3 c4 c5 c6 c7 c8 c9 c10 c11 c12 c13 c14 c15 c16 c17 c18 c19 c20 c21 c22 c23 c24 c25 c26 c27 c28 c29 : Sl}
theorem u27 (hp : PB P b) {kvs : List (Key × D)} (hk : Kn b kvs 120) (hh : ∀ c6 c13 c15 c21 c22 c23 c24 c25 c26 c27, En.nx (c0 :: (.own true .src) :: c2 :: c3 :: c4 :: c5 :: c6 :: c7 :: c8 :: c9 :: c10 :: c11 :: c12 :: c13 :: c14 :: c15 :: c16 :: c17 :: c18 :: c19 :: c20 :: c21 :: c22 :: c23 :: c24 :: c25 :: c26 :: c27 :: c28 :: c29 :: Sl.un :: Sl.un :: Sl.un :: Sl.un :: [])) : S_law_27 En (c0 :: (.own true .src) :: c2 :: c3 :: c4 :: c5 :: (.own true (.dic kvs)) :: c7 :: c8 :: c9 :: c10 :: c11 :: c12 :: c13 :: c14 :: c15 :: c16 :: c17 :: c18 :: c19 :: c20 :: c21 :: c22 :: c23 :: c24 :: c25 :: c26 :: c27 :: c28 :: c29 :: Sl.un :: Sl.un :: Sl.un :: Sl.un :: []) := by
  have hb : 2 ≤ b ∧ b ≤ 8 := by have := hp.ok.two; have := hp.le; have := hp.eq; omega
  refine ⟨sz (by have := hk.len; omega), ?_⟩
  exact items_for hb (c := 120) (by decide) kvs _ _ _ _ _ _ _ _ _ hk.val fun c13 c15 c21 c22 c23 c24 c25 c26 c27 => hh _ _ _ _ _ _ _ _ _ _
theorem rg_ring {n m : Nat} {A : List Int} (h : Rg n m A) : Rg n m (ring (und A)) := by
  have e : ring (und A) = minrot (und A) := by
    have h1 := ring_red (red_undone h.red)
    have h2 : core (undone A) = undone A := core_stop (canc_und h.nc)
    rw [h2] at h1
    exact h1
  have c := ring_cyc (und A)
  have hl : (ring (und A)).length = A.length := by rw [e, ← (minrot_rot (und A)).len, und_len]
  refine ⟨fun z => h.ne (List.eq_nil_of_length_eq_zero (by rw [← hl, z]; rfl)), by rw [hl]; exact h.len, fun x hx => ?_, c.1, c.2⟩
  have := h.mem _ (und_mem (ring_sub hx))
  exact ⟨by omega, by omega, by omega⟩
theorem u24 {A B : List Int} (h0 : A ≠ []) (hA : A.length ≤ 6) (hB : B.length ≤ 6) (hh : En.nx (c0 :: c1 :: c2 :: c3 :: c4 :: (.d (.list ([A, B, A ++ A, ring (und B)].map tupD))) :: c6 :: c7 :: c8 :: c9 :: c10 :: c11 :: c12 :: c13 :: c14 :: c15 :: c16 :: c17 :: c18 :: c19 :: c20 :: c21 :: c22 :: c23 :: c24 :: c25 :: c26 :: c27 :: c28 :: c29 :: Sl.un :: Sl.un :: Sl.un :: Sl.un :: [])) : S_law_24 En (c0 :: c1 :: c2 :: c3 :: c4 :: (.d (.list [tupD A, tupD B])) :: c6 :: c7 :: c8 :: c9 :: c10 :: c11 :: c12 :: c13 :: c14 :: c15 :: c16 :: c17 :: c18 :: c19 :: c20 :: c21 :: c22 :: c23 :: c24 :: c25 :: c26 :: c27 :: c28 :: c29 :: Sl.un :: Sl.un :: Sl.un :: Sl.un :: []) := by
  have l0 : (A.map PyData.int).length = A.length := List.length_map _
  refine ⟨.inr ⟨fun z => h0 (List.map_eq_nil_iff.mp z), by decide, by decide, by rw [l0]; omega⟩, ?_⟩
  refine ⟨rfl, w__law_undoneT B ⟨rfl, w__law_ring (und B) (by rw [und_len]; omega) ?_⟩⟩
  refine ⟨sz (by show 2 ≤ 1000; omega), (by show 2 + 2 ≤ sizeLine; exact sz (by omega)), ?_⟩
  have e : (List.replicate (2 : Int).toNat (A.map PyData.int)).flatten = (A ++ A).map PyData.int := by
    show A.map PyData.int ++ (A.map PyData.int ++ []) = _
    rw [List.append_nil, List.map_append]
  rw [e]
  exact hh
structure Four (P : List Int) (a c e f : Int) : Prop where
  m : a ∈ P ∧ c ∈ P ∧ e ∈ P ∧ f ∈ P
  d : a ≠ c ∧ a ≠ e ∧ a ≠ f ∧ c ≠ e ∧ c ≠ f ∧ e ≠ f
theorem four_of {Q : List Int} (nd : P.Nodup) (h4 : 4 ≤ P.length) (h : Q.Perm P) : ∃ a c e f r, Q = a :: c :: e :: f :: r ∧ Four P a c e f := by
  have hl := h.length_eq
  match Q, hl with
  | a :: c :: e :: f :: r, _ =>
    have nq := h.nodup_iff.mpr nd
    simp only [List.nodup_cons, List.mem_cons, not_or] at nq
    refine ⟨a, c, e, f, r, rfl, ⟨h.mem_iff.mp (by simp), h.mem_iff.mp (by simp), h.mem_iff.mp (by simp), h.mem_iff.mp (by simp)⟩, ?_⟩
    obtain ⟨⟨q1, q2, q3, _⟩, ⟨q4, q5, _⟩, ⟨q6, _⟩, _⟩ := nq
    exact ⟨q1, q2, q3, q4, q5, q6⟩
  | [], h => simp at h; omega
  | [_], h => simp at h; omega
  | [_, _], h => simp at h; omega
  | [_, _, _], h => simp at h; omega
def s28a : STy := (sSet 28 (eSl (eCall W__law_mixed (aCons (eV 1) (aCons (eV 3) aNil))) oNone (oSome (eK (.int 4)))))
def s28b : STy := (sSet 29 (eLc (iAny (eSl (eV 28) (oSome (eK (.int 2))) oNone)) (.nm 30) tYesD (e2 wLt (eCall W__law_steps (aCons (eV 3) (aCons (e2 wIx (eV 28) (eK (.int 0))) (aCons (eV 30) aNil)))) (eCall W__law_steps (aCons (eV 3) (aCons (e2 wIx (eV 28) (eK (.int 0))) (aCons (e2 wIx (eV 28) (eK (.int 1))) aNil))))) [30]))
def s28c : STy := (sIf (tB' (e2 wNe (eCall W_are_by_turns (aCons (eV 3) (aCons (eTup (aCons (e2 wIx (eV 28) (eK (.int 0))) (aCons (e2 wIx (eV 28) (eK (.int 1))) aNil))) (aCons (eTup (aCons (e2 wIx (eV 28) (eK (.int 2))) (aCons (e2 wIx (eV 28) (eK (.int 3))) aNil))) aNil)))) (e2 wNe (e2 wIx (eV 29) (eK (.int 0))) (e2 wIx (eV 29) (eK (.int 1)))))) (sRet (eK (.bool false))) sNext)
theorem u28a (oP : OkP P) (h4 : 4 ≤ P.length) (hh : ∀ a c e f, Four P a c e f → En.nx (c0 :: (.own true .src) :: c2 :: (.d (tupD P)) :: c4 :: c5 :: c6 :: c7 :: c8 :: c9 :: c10 :: c11 :: c12 :: c13 :: c14 :: c15 :: c16 :: c17 :: c18 :: c19 :: c20 :: c21 :: c22 :: c23 :: c24 :: c25 :: c26 :: c27 :: (.d (lstD [a, c, e, f])) :: c29 :: Sl.un :: Sl.un :: Sl.un :: Sl.un :: [])) : s28a En (c0 :: (.own true .src) :: c2 :: (.d (tupD P)) :: c4 :: c5 :: c6 :: c7 :: c8 :: c9 :: c10 :: c11 :: c12 :: c13 :: c14 :: c15 :: c16 :: c17 :: c18 :: c19 :: c20 :: c21 :: c22 :: c23 :: c24 :: c25 :: c26 :: c27 :: c28 :: c29 :: Sl.un :: Sl.un :: Sl.un :: Sl.un :: []) := by
  refine ⟨rfl, w__law_mixedT P (by have := oP.most; omega) fun Q hQ => ?_⟩
  obtain ⟨a, c, e, f, r, rfl, q⟩ := four_of oP.nd h4 hQ
  have hcut : cutD ((a :: c :: e :: f :: r).map PyData.int) none (some 4) = [a, c, e, f].map PyData.int := by
    have := cut_to ((a :: c :: e :: f :: r).map PyData.int) 4
    rw [show ((4 : Nat) : Int) = 4 from rfl] at this
    rw [this]; rfl
  have hs := hh a c e f q
  unfold lstD at hs
  rw [← hcut] at hs
  exact hs
section
variable {a c e f : Int}
theorem u28b {T : List Int} (oP : OkP P) (q : Four P a c e f) (a0 : atI T 0 = some a) (a1 : atI T 1 = some c) (hcut : cutD (T.map PyData.int) (some 2) none = [e, f].map PyData.int) (hh : En.nx (c0 :: c1 :: c2 :: (.d (tupD P)) :: c4 :: c5 :: c6 :: c7 :: c8 :: c9 :: c10 :: c11 :: c12 :: c13 :: c14 :: c15 :: c16 :: c17 :: c18 :: c19 :: c20 :: c21 :: c22 :: c23 :: c24 :: c25 :: c26 :: c27 :: (.d (lstD T)) :: (.d (.list [.bool (lts P a c e), .bool (lts P a c f)])) :: Sl.un :: Sl.un :: Sl.un :: Sl.un :: [])) : s28b En (c0 :: c1 :: c2 :: (.d (tupD P)) :: c4 :: c5 :: c6 :: c7 :: c8 :: c9 :: c10 :: c11 :: c12 :: c13 :: c14 :: c15 :: c16 :: c17 :: c18 :: c19 :: c20 :: c21 :: c22 :: c23 :: c24 :: c25 :: c26 :: c27 :: (.d (lstD T)) :: c29 :: Sl.un :: Sl.un :: Sl.un :: Sl.un :: []) := by
  refine lcW_mapE (i := 30) PyData.int (fun x => .bool (lts P a c x)) [e, f] hcut rfl (fun x hx q0 hq => ?_) hh
  have mx : x ∈ P := by
    rcases List.mem_cons.mp hx with rfl | hx
    · exact q.m.2.2.1
    · rcases List.mem_cons.mp hx with rfl | hx
      · exact q.m.2.2.2
      · cases hx
  refine wD_at a0 ?_
  refine ⟨rfl, ?_⟩
  refine w__law_steps oP q.m.1 mx ?_
  refine wD_at a0 (wD_at a1 ?_)
  refine ⟨rfl, ?_⟩
  refine w__law_steps oP q.m.1 q.m.2.1 ?_
  exact hq
theorem u28c {T : List Int} (oP : OkP P) (q : Four P a c e f) (a0 : atI T 0 = some a) (a1 : atI T 1 = some c) (a2 : atI T 2 = some e) (a3 : atI T 3 = some f) (hh : En.nx (c0 :: c1 :: c2 :: (.d (tupD P)) :: c4 :: c5 :: c6 :: c7 :: c8 :: c9 :: c10 :: c11 :: c12 :: c13 :: c14 :: c15 :: c16 :: c17 :: c18 :: c19 :: c20 :: c21 :: c22 :: c23 :: c24 :: c25 :: c26 :: c27 :: (.d (lstD T)) :: (.d (.list [.bool (lts P a c e), .bool (lts P a c f)])) :: Sl.un :: Sl.un :: Sl.un :: Sl.un :: [])) : s28c En (c0 :: c1 :: c2 :: (.d (tupD P)) :: c4 :: c5 :: c6 :: c7 :: c8 :: c9 :: c10 :: c11 :: c12 :: c13 :: c14 :: c15 :: c16 :: c17 :: c18 :: c19 :: c20 :: c21 :: c22 :: c23 :: c24 :: c25 :: c26 :: c27 :: (.d (lstD T)) :: (.d (.list [.bool (lts P a c e), .bool (lts P a c f)])) :: Sl.un :: Sl.un :: Sl.un :: Sl.un :: []) := by
  have z2 : 2 ≤ sizeLine := sz (by omega)
  refine wD_at a0 (wD_at a1 ?_)
  refine ⟨z2, ?_⟩
  refine wD_at a2 (wD_at a3 ?_)
  refine ⟨z2, rfl, ?_⟩
  refine w_are_by_turns (a := a) (c := c) (e := e) (f := f) oP q.m ?_
  rw [← lts_btw q.m q.d]
  generalize lts P a c e = u at *
  generalize lts P a c f = v at *
  cases u <;> cases v <;> exact ⟨rfl, rfl, rfl, rfl, hh⟩
end
theorem u28 {n : Nat} (hP : OR.PlZ n P) (hn : 1 ≤ n ∧ n ≤ 12) (hh : ∀ c28 c29, En.nx (c0 :: (.own true .src) :: (.d (.int (n : Nat))) :: (.d (tupD P)) :: c4 :: c5 :: c6 :: c7 :: c8 :: c9 :: c10 :: c11 :: c12 :: c13 :: c14 :: c15 :: c16 :: c17 :: c18 :: c19 :: c20 :: c21 :: c22 :: c23 :: c24 :: c25 :: c26 :: c27 :: c28 :: c29 :: Sl.un :: Sl.un :: Sl.un :: Sl.un :: [])) : S_law_28 En (c0 :: (.own true .src) :: (.d (.int (n : Nat))) :: (.d (tupD P)) :: c4 :: c5 :: c6 :: c7 :: c8 :: c9 :: c10 :: c11 :: c12 :: c13 :: c14 :: c15 :: c16 :: c17 :: c18 :: c19 :: c20 :: c21 :: c22 :: c23 :: c24 :: c25 :: c26 :: c27 :: c28 :: c29 :: Sl.un :: Sl.un :: Sl.un :: Sl.un :: []) := by
  have oP := okP_of hP hn
  have hl := hP.len
  refine iteD (fun c => ?_) fun _ => hh _ _
  have c : 1 < (n : Int) := c
  refine i_seq (t := s28a) (u := sSeq s28b s28c) (u28a oP (by omega) fun a c e f q => ?_)
  have hcut : cutD ([a, c, e, f].map PyData.int) (some 2) none = [e, f].map PyData.int := by
    have := cut_from ([a, c, e, f].map PyData.int) 2
    rw [show ((2 : Nat) : Int) = 2 from rfl] at this
    rw [this]; rfl
  refine n_seq (t := s28b) (u := s28c) (u28b oP q rfl rfl hcut ?_)
  exact n_last (t := s28c) (u28c oP q rfl rfl rfl rfl (hh _ _))
theorem u21 (hh : ∀ n : Nat, 1 ≤ n ∧ n ≤ 4 → En.nx (c0 :: (.own true .src) :: (.d (.int (n : Nat))) :: c3 :: c4 :: c5 :: c6 :: c7 :: c8 :: c9 :: c10 :: c11 :: c12 :: c13 :: c14 :: c15 :: c16 :: c17 :: c18 :: c19 :: c20 :: c21 :: c22 :: c23 :: c24 :: c25 :: c26 :: c27 :: c28 :: c29 :: Sl.un :: Sl.un :: Sl.un :: Sl.un :: [])) : S_law_21 En (c0 :: (.own true .src) :: c2 :: c3 :: c4 :: c5 :: c6 :: c7 :: c8 :: c9 :: c10 :: c11 :: c12 :: c13 :: c14 :: c15 :: c16 :: c17 :: c18 :: c19 :: c20 :: c21 :: c22 :: c23 :: c24 :: c25 :: c26 :: c27 :: c28 :: c29 :: Sl.un :: Sl.un :: Sl.un :: Sl.un :: []) := ⟨rfl, 4, rfl, by decide, fun r h1 h2 => by
  have := hh (1 + r).toNat (by omega)
  rw [show (((1 + r).toNat : Nat) : Int) = 1 + r by omega] at this
  exact this⟩
theorem law_holds (ns : List Int) (h : ns.length ≤ 63) : W_law [.d (.list (ns.map PyData.int))] fun r _ => r = .d (.bool true) := by
  refine ⟨rfl, i_seq ⟨rfl, ns, rfl, ?_⟩⟩
  refine n_seq (u21 fun n hn => ?_)
  refine n_seq ⟨rfl, w__law_plate n (by omega) fun P hP => ⟨.inl (.inl ⟨by decide, by decide⟩), sz (by show 2 ≤ 1000; omega), ?_⟩⟩
  have hp : PB P (2 * (n : Int)) := ⟨okP_of hP (by omega), by have := hP.len; omega, by have := hP.len; omega⟩
  refine n_seq ⟨rfl, w__law_drawn n 6 (by omega) (by decide) fun A hA => ⟨rfl, w__law_drawn n 4 (by omega) (by decide) fun B hB => ⟨sz (by show 2 ≤ 1000; omega), ?_⟩⟩⟩
  have lA := hA.len
  have lB := hB.len
  refine n_seq (u24 hA.ne lA (by omega) ?_)
  refine n_seq ?_
  have rA := Rr.of hP (by omega) hA (by decide)
  have rB := Rr.of hP (by omega) hB (by decide)
  have rC := rA.two lA
  have rD := Rr.of hP (by omega) (rg_ring hB) (by decide)
  refine n_seq (all_rings (Rs := [A, B, A ++ A, ring (und B)]) hp (fun R hR => ?_) (by simp) fun kvs c7 c8 c9 c10 c11 c12 c13 c14 c15 c16 c17 c18 c19 c20 hk => ?_)
  · rcases List.mem_cons.mp hR with rfl | hR
    · exact rA
    · rcases List.mem_cons.mp hR with rfl | hR
      · exact rB
      · rcases List.mem_cons.mp hR with rfl | hR
        · exact rC
        · rcases List.mem_cons.mp hR with rfl | hR
          · exact rD
          · cases hR
  refine n_seq (u27 hp hk fun c6 c13 c15 c21 c22 c23 c24 c25 c26 c27 => ?_)
  exact n_seq (u28 hP (by omega) fun c28 c29 => n_last rfl)
end
end K13

open PySem PySem.W PyProof.Rows
set_option maxHeartbeats 0 in
theorem PySem.Challenge.cw_loopsonplates_k13_rays_numbers_by_long_s_holds : PySem.Challenge.rw_loopsonplates_k13_rays_numbers_by_long_s.Holds := by
  w_on; o_law; k_head; (case hw => w_witness2)
  k_fill
  refine DL.walk_end2 (l := PySem.Challenge.rw_loopsonplates_k13_rays_numbers_by_long_s) (n := 63) (k := 6) (x := "script") (G := K13.W_law) rfl (by decide) rfl ⟨rfl, by decide, by decide⟩ (fun w h Y => PySem.W.kIn_of Y) ?F K13.law_holds
  case F =>
    intro w mg fa h KX G hmg
    refine' K13.all_mk KX G hmg ?kd0 ?kd1 ?kd2 ?kd3 ?kd4 ?kd5 ?kd6 ?kd7 ?kd8 ?kd9 ?kd10 ?kd11 ?kd12 ?kd13 ?kd14 ?kd15 ?kd16 ?kd17 ?kd18 ?kd19 ?kd20 ?kd21 ?kz0 ?kz1 ?kz2 ?kz3 ?kz4 ?kz5 ?kz6 ?kz7 ?kz8 ?kz9 ?kz10 ?kz11 ?kz12
    case kd0 => refine' DL.DefAt.mk' ?a ?l ?c ?k; (case a => k_is); (case l => k_is); (case c => k_is); (case k => k_is)
    case kd1 => refine' DL.DefAt.mk' ?a ?l ?c ?k; (case a => k_is); (case l => k_is); (case c => k_is); (case k => k_is)
    case kd2 => refine' DL.DefAt.mk' ?a ?l ?c ?k; (case a => k_is); (case l => k_is); (case c => k_is); (case k => k_is)
    case kd3 => refine' DL.DefAt.mk' ?a ?l ?c ?k; (case a => k_is); (case l => k_is); (case c => k_is); (case k => k_is)
    case kd4 => refine' DL.DefAt.mk' ?a ?l ?c ?k; (case a => k_is); (case l => k_is); (case c => k_is); (case k => k_is)
    case kd5 => refine' DL.DefAt.mk' ?a ?l ?c ?k; (case a => k_is); (case l => k_is); (case c => k_is); (case k => k_is)
    case kd6 => refine' DL.DefAt.mk' ?a ?l ?c ?k; (case a => k_is); (case l => k_is); (case c => k_is); (case k => k_is)
    case kd7 => refine' DL.DefAt.mk' ?a ?l ?c ?k; (case a => k_is); (case l => k_is); (case c => k_is); (case k => k_is)
    case kd8 => refine' DL.DefAt.mk' ?a ?l ?c ?k; (case a => k_is); (case l => k_is); (case c => k_is); (case k => k_is)
    case kd9 => refine' DL.DefAt.mk' ?a ?l ?c ?k; (case a => k_is); (case l => k_is); (case c => k_is); (case k => k_is)
    case kd10 => refine' DL.DefAt.mk' ?a ?l ?c ?k; (case a => k_is); (case l => k_is); (case c => k_is); (case k => k_is)
    case kd11 => refine' DL.DefAt.mk' ?a ?l ?c ?k; (case a => k_is); (case l => k_is); (case c => k_is); (case k => k_is)
    case kd12 => refine' DL.DefAt.mk' ?a ?l ?c ?k; (case a => k_is); (case l => k_is); (case c => k_is); (case k => k_is)
    case kd13 => refine' DL.DefAt.mk' ?a ?l ?c ?k; (case a => k_is); (case l => k_is); (case c => k_is); (case k => k_is)
    case kd14 => refine' DL.DefAt.mk' ?a ?l ?c ?k; (case a => k_is); (case l => k_is); (case c => k_is); (case k => k_is)
    case kd15 => refine' DL.DefAt.mk' ?a ?l ?c ?k; (case a => k_is); (case l => k_is); (case c => k_is); (case k => k_is)
    case kd16 => refine' DL.DefAt.mk' ?a ?l ?c ?k; (case a => k_is); (case l => k_is); (case c => k_is); (case k => k_is)
    case kd17 => refine' DL.DefAt.mk' ?a ?l ?c ?k; (case a => k_is); (case l => k_is); (case c => k_is); (case k => k_is)
    case kd18 => refine' DL.DefAt.mk' ?a ?l ?c ?k; (case a => k_is); (case l => k_is); (case c => k_is); (case k => k_is)
    case kd19 => refine' DL.DefAt.mk' ?a ?l ?c ?k; (case a => k_is); (case l => k_is); (case c => k_is); (case k => k_is)
    case kd20 => refine' DL.DefAt.mk' ?a ?l ?c ?k; (case a => k_is); (case l => k_is); (case c => k_is); (case k => k_is)
    case kd21 => refine' DL.DefAt.mk' ?a ?l ?c ?k; (case a => k_is); (case l => k_is); (case c => k_is); (case k => k_is)
    case kz0 => k_is
    case kz1 => k_is
    case kz2 => k_is
    case kz3 => k_is
    case kz4 => k_is
    case kz5 => k_is
    case kz6 => k_is
    case kz7 => k_is
    case kz8 => k_is
    case kz9 => k_is
    case kz10 => k_is
    case kz11 => k_is
    case kz12 => k_is

