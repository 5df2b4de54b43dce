import PyProof.Rows.All
import Wide.All
import OpenK.AllK
import Wide.FinOn
import HandS.ForMost
import HandS.TupAny
import HandS.Strs
import HandS.Exc
import HandS.TryOnly
import HandS.ExcOwn
import HandS.Deep
import HandS.Style
import HandS.IsInst
import HandS.Codes
import HandS.CallSlots
import HandS.Lambda
import HandS.TryMany
import KE.KNestM
import HandS.Text
import HandS.Iter
import HandS.Zip
import HandS.Small
import HandS.Defaults
import KE.GoesEnum
import KE.GoesMore
import HandS.Dict
import HandS.HeadHook1
import HandS.WordsExc
import PyProof.ExcBaseAll.ValueError
import HandS.Head0
import HandS.Head1
import HandS.Head2
import HandS.HeadEnd
import HandS.HeadHook2
import HandS.EndTab
import KE.KNest
import KE.KStateDown
import PySem.Challenge.RW_twohooks_k04_what_habits_make_of_values
set_option Elab.async false
set_option linter.all false
set_option maxRecDepth 100000
set_option maxHeartbeats 0
namespace Ev
open PySem PySem.Spec PyProof.Rows L2 HT
/-- a tuple without a dict -/
def SqX (K : PySem.W.Frag) (H : Hp) (a : Addr) (xs : List V) : Prop :=
  (∃ o : Obj, o.dict = none ∧ H a = some (.frz o (.tup xs))) ∨
    ∃ (o : Obj) (its : Array Value) (n : Nat), o.dict = none ∧ K.lookup a = some o ∧ o.cls = .type "tuple" ∧ o.data = .seq its n ∧ its.size ≤ sizeLine ∧ Vals xs its.toList
theorem SqX.t {K : PySem.W.Frag} {H : Hp} {a : Addr} {xs : List V} (h : SqX K H a xs) : SqT K H a xs := by
  rcases h with ⟨o, _, e⟩ | ⟨o, its, n, _, r⟩
  · exact .inl (.inr ⟨o, e⟩)
  · exact .inr ⟨o, its, n, r⟩
section
variable {X : Cx} {pins : List (Addr × Obj)} {σ : L2.St} {H : Hp} {s : Shared}
theorem SqX.dict {a : Addr} {xs : List V} (h : SqX X.K H a xs) (I : Inv X pins σ H s) : ∃ ob, s.heap.get? a = some ob ∧ ob.dict = none := by
  rcases h with ⟨o, d, e⟩ | ⟨o, its, n, d, k, _⟩
  · exact ⟨o, (I.hok a _ e).1, d⟩
  · exact ⟨o, I.kIn a o k, d⟩
/-- a new tuple laid down -/
theorem laidX {Q : VK} {h1 : Heap} {t1 : Nat} {xs : List V} {its : List Value} (I : Inv X pins σ H { s with heap := h1, toks := t1 }) (hz : xs.length ≤ sizeLine) (r : Vals xs its)
    (q : ∀ p o, o.dict = none → H p = none → Q (.ref p) (upd H p (.frz o (.tup xs)))) : EP X pins σ Q (.ref h1.objs.size) { s with heap := h1.push { cls := .type "tuple", data := .seq its.toArray }, toks := t1 } := by
  have hf : H h1.objs.size = none := I.hok.fresh (Nat.le_refl _)
  have new : ObjOk X.prog X.w (upd H h1.objs.size (.frz { cls := .type "tuple", data := .seq its.toArray } (.tup xs))) (h1.push { cls := .type "tuple", data := .seq its.toArray }) h1.objs.size (.frz { cls := .type "tuple", data := .seq its.toArray } (.tup xs)) :=
    ⟨Heap.get?_push_size _ rfl, hz, its, r, IsTup.new _ _⟩
  exact ⟨.ref h1.objs.size, _, I.laid (t' := t1) (fun b u e => Heap.get?_push_of_some _ e) (Nat.le_refl _) new, rfl, q _ _ rfl hf⟩
/-- (a, b, ..) -/
def tTupX (t : TA) : TE := fun σ H Q => t σ H fun xs H1 => xs.length ≤ sizeLine ∧ ∀ p o, o.dict = none → H1 p = none → Q (.ref p) (upd H1 p (.frz o (.tup xs)))
theorem pe_tupX {es : List Expr} {t : TA} {pos : Pos} {j} (h : PA X es t) : PE X (.Tuple es j pos) (tTupX t) := by
  refine ⟨fun pins s σ H Q I hq => ?_⟩
  refine wpAny_Tuple_spliced (thn (h.run pos pins s σ H _ I hq) fun us s1 ⟨xs, H1, I1, r, z, q⟩ => ⟨by rw [← r.length]; exact z, ?_⟩)
  exact laidX (s := s1) (t1 := s1.toks) (h1 := s1.heap) I1 z r q
/-- t + u -/
def rCatX (K : PySem.W.Frag) : R2 := fun x y H Q => ∃ a b xs ys, x = .ref a ∧ y = .ref b ∧ SqX K H a xs ∧ SqX K H b ys ∧ xs.length + ys.length ≤ sizeLine ∧
  (xs = [] → Q (.ref b) H) ∧ (xs ≠ [] → ys = [] → Q (.ref a) H) ∧ (xs ≠ [] → ys ≠ [] → ∀ p o, o.dict = none → H p = none → Q (.ref p) (upd H p (.frz o (.tup (xs ++ ys)))))
theorem op_catX : OpR X (binaryOp .Add) (rCatX X.K) := by
  intro pins s σ H x y v u Q I rx ry h
  obtain ⟨a, b, xs, ys, rfl, rfl, ha, hb, hz, q0, q1, q2⟩ := h
  cases rx
  cases ry
  obtain ⟨its, r1, p1, _⟩ := I.tuple ha.t
  obtain ⟨its2, r2, p2, _⟩ := I.tuple hb.t
  by_cases hx : xs = []
  · subst hx
    cases r1
    exact cat_tup0 p1 p2 ⟨.ref b, H, I, rfl, q0 rfl⟩
  · refine HT.cat_tup p1 p2 (fun z => hx (r1.nil_iff.mp z)) (fun z => ⟨.ref a, H, I, rfl, q1 hx (r2.nil_iff.mp z)⟩) (fun z => ?_) (by rw [← r1.length, ← r2.length]; exact hz)
    exact laidX (s := s) (h1 := s.heap) (t1 := s.toks) I (by rw [List.length_append]; exact hz) (r1.append r2) (q2 hx fun w => z (r2.nil_iff.mpr w))
/-- t[lo:hi] -/
def rSlX (K : PySem.W.Frag) : V → Option Int → Option Int → Hp → VK → Prop := fun x lo hi H Q => ∃ a xs, x = .ref a ∧ SqX K H a xs ∧
  (HT.sIx xs.length 0 lo = 0 ∧ HT.sIx xs.length xs.length hi = xs.length → Q (.ref a) H) ∧ (¬ (HT.sIx xs.length 0 lo = 0 ∧ HT.sIx xs.length xs.length hi = xs.length) → ∀ p o, o.dict = none → H p = none → Q (.ref p) (upd H p (.frz o (.tup (cutV xs lo hi)))))
theorem sl_tupX : SlR X (rSlX X.K) := by
  intro pins s σ H x v vl vu lo hi sl Q I rx hs pl pu h
  obtain ⟨a, xs, rfl, hx, q1, q2⟩ := h
  cases rx
  obtain ⟨its, r, ht, hz⟩ := I.tuple hx.t
  have hlen : its.toArray.size = xs.length := by rw [List.size_toArray]; exact r.length.symm
  refine ⟨"tuple", _, PyProof.Rows.slot_tuple_getitem.lookup, ht.typeIs, ?_⟩
  by_cases hw : HT.sIx xs.length 0 lo = 0 ∧ HT.sIx xs.length xs.length hi = xs.length
  · exact getItem_tuple_whole ht hs pl pu (by rw [hlen]; exact hw) ⟨.ref a, H, I, rfl, q1 hw⟩
  · refine HT.getItem_tuple_cut ht hs pl pu (by rw [hlen]; exact hw) ?_ (by rw [hlen]; exact hz)
    rw [hlen]
    exact laidX (s := s) (h1 := s.heap) (t1 := s.toks) I (Nat.le_trans (cutV_length xs lo hi) hz) ((r.drop (HT.sIx xs.length 0 lo)).take (HT.sIx xs.length xs.length hi - HT.sIx xs.length 0 lo)) (q2 hw)
/-- tuple(x) -/
theorem call_tupleX : CallR X (.type "tuple") (fun xs H Q => ∃ p ys, xs = [.ref p] ∧ ((SqL X.K H p ys ∧ ∀ l o, o.dict = none → H l = none → Q (.ref l) (upd H l (.frz o (.tup ys)))) ∨ (SqX X.K H p ys ∧ Q (.ref p) H))) := by
  intro pins s σ H xs us Q I r h
  obtain ⟨p, ys, rfl, h⟩ := h
  obtain ⟨u, rfl, rx⟩ := vals1 r
  cases rx
  rcases h with ⟨hq, q⟩ | ⟨hq, q⟩
  · obtain ⟨its, r', pl, hz⟩ := I.list hq
    have hlen := r'.length
    refine call_tuple_list pl.isList (fun h' kp => ?_) (by simp only [List.size_toArray] <;> omega)
    have I1 : Inv X pins σ H { s with heap := h' } := I.kept (t' := s.toks) kp
    exact laidX (s := s) (h1 := h') (t1 := s.toks) I1 hz r' q
  · obtain ⟨its, r', pl, hz⟩ := I.tuple hq.t
    exact call_tuple_same pl ⟨.ref p, H, I, rfl, q⟩
/-- t.index(x) over texts, t of any origin -/
def tIxT (K : PySem.W.Frag) (to te : TE) : TE := fun σ H Q => to σ H fun x H1 => ∃ p ys, x = .ref p ∧ SqX K H1 p ys ∧ te σ H1 fun y H2 => ∃ (zs : List Str) (z : Str) (j : Nat), y = .str z ∧ SqX K H2 p (zs.map V.str) ∧ zs[j]? = some z ∧ (∀ m, m < j → zs[m]? ≠ some z) ∧ Q (.int (j : Nat)) H2
theorem pe_ixT {o e : Expr} {to te : TE} {apos cpos : Pos} (ho : PE X o to) (he : PE X e te) (hbase : attributeBase o "index" X.env (eval o X.env) = eval o X.env) (hs : starEach [e] X.env = [(false, eval e X.env)]) (hline : (apos.endLine == cpos.line) = true) :
    PE X (.Call (.Attribute o "index" apos) [e] [] cpos) (tIxT X.K to te) := by
  refine ⟨fun pins s σ H Q I h => ?_⟩
  refine wpAny_Call_method_late hbase (by rw [hs]; rfl) hline rfl (thn (ho.run pins s σ H _ I h) fun v s1 ⟨x, H1, I1, r1, q1⟩ => ?_)
  obtain ⟨p, ys, rfl, hp, q1⟩ := q1
  cases r1
  obtain ⟨its, _, pl, _⟩ := I1.tuple hp.t
  refine ⟨"tuple", "tuple.index", PySem.F.plainAttrs_tuple, PySem.F.slot_tuple_index, PySem.F.type_tuple_index, pl.typeIs, fun a e => by cases e; exact hp.dict I1, ?_⟩
  have ha : PA X [e] (tCons te tNil) := pa_cons he pa_nil (by rw [hs]; rfl)
  have hA := ha.run cpos pins s1 σ H1 (fun xs H2 => match xs with
    | [y] => ∃ (zs : List Str) (z : Str) (j : Nat), y = .str z ∧ SqX X.K H2 p (zs.map V.str) ∧ zs[j]? = some z ∧ (∀ m, m < j → zs[m]? ≠ some z) ∧ Q (.int (j : Nat)) H2
    | _ => False) I1 q1
  rw [hs] at hA ⊢
  refine Calls.callWith_builtin (by rfl) (Calls.evalArgs_plain ?_)
  refine thn hA fun us s2 ⟨vs, H2, I2, r2, q2⟩ => ?_
  match vs, q2, r2 with
  | [y], q2, r2 =>
    obtain ⟨zs, z, j, rfl, h1, h2, h3, q⟩ := q2
    exact mt_tup_index pins s2 σ H2 (.ref p) [.str z] (.ref p) us Q I2 rfl r2 ⟨p, zs, z, j, rfl, rfl, h1.t, h2, h3, q⟩
end
end Ev

namespace Ev
open PySem PySem.Spec PyProof.Rows L2
open SX (S S_cat S_len S_inj S_tl)

/-- plain data: own l is a list that the frame at hand may still change; ref n a cell of the store; pr a b a pair that zip or enumerate gives -/
inductive D where
  | non | bl (b : Bool) | int (i : Int) | str (s : List Nat)
  | tup (l : List D) | lst (l : List D) | own (l : List D) | ref (n : Nat) | pr (a b : D)
  deriving Inhabited

/-- a dict's key: an int or a text -/
abbrev Kd := Sum Int (List Nat)
inductive Cell where
  | lst (l : List D) | dct (kvs : List (Kd × D)) | tab (q : Str)
/-- may be kept -/
def D.ok : D → Bool
  | .own _ => false
  | _ => true

/-- the largest length -/
def lim : Nat := 16777216
theorem lim_eq : lim = sizeLine := by rw [sizeLine_eq]; rfl
abbrev Store := List Cell
/-- an exception: the place of its class in the table, what its field holds -/
structure Exc where
  c : Nat
  p : Option (Str × D)
inductive Res (α : Type) where
  | ok (a : α) | err (e : Exc)
abbrev M (α : Type) := Store → Option (Res α × Store)
def pur {α : Type} (a : α) : M α := fun S => some (.ok a, S)
def raise {α : Type} (e : Exc) : M α := fun S => some (.err e, S)
def non {α : Type} : M α := fun _ => none
def bnd {α β : Type} (m : M α) (f : α → M β) : M β := fun S => match m S with
  | some (.ok a, S') => f a S'
  | some (.err e, S') => some (.err e, S')
  | none => none
def ofO {α : Type} : Option α → M α
  | some a => pur a
  | none => non
theorem bnd_pur {α β : Type} (a : α) (f : α → M β) : bnd (pur a) f = f a := rfl
theorem bnd_non {α β : Type} (f : α → M β) : bnd non f = non := rfl
theorem bnd_raise {α β : Type} (e : Exc) (f : α → M β) : bnd (raise e) f = raise e := rfl
theorem bnd_assoc {α β γ : Type} (m : M α) (f : α → M β) (g : β → M γ) : bnd (bnd m f) g = bnd m fun a => bnd (f a) g := by
  funext S
  unfold bnd
  cases m S with
  | none => rfl
  | some r =>
    obtain ⟨r, S'⟩ := r
    cases r with
    | ok a => rfl
    | err e => rfl
theorem bnd_ok {α β : Type} {m : M α} {f : α → M β} {S S' : Store} {a : α} (h : m S = some (.ok a, S')) : bnd m f S = f a S' := by unfold bnd; rw [h]
/-- what a bind's end says -/
theorem bnd_inv {α β : Type} {m : M α} {f : α → M β} {S S' : Store} {b : β} (h : bnd m f S = some (.ok b, S')) : ∃ a S1, m S = some (.ok a, S1) ∧ f a S1 = some (.ok b, S') := by
  unfold bnd at h
  cases q : m S with
  | none => rw [q] at h; cases h
  | some r =>
    obtain ⟨r, S1⟩ := r
    rw [q] at h
    cases r with
    | ok a => exact ⟨a, S1, rfl, h⟩
    | err e => cases h

abbrev Env := List (Option D)

/-- the tracked heap, the addresses of the store's cells, the addresses that may still be changed -/
structure Wd where
  H : Hp
  as : List Addr
  F : Addr → Prop

section
variable (K : PySem.W.Frag)
mutual
inductive Rp (W : Wd) : D → V → Prop
  | non : Rp W .non .non
  | bl (b : Bool) : Rp W (.bl b) (.bl b)
  | int (i : Int) : Rp W (.int i) (.int i)
  | str (s : List Nat) : s.all (· < 0x110000) = true → s.length ≤ lim → Rp W (.str s) (.str (S s))
  | tup {a : Addr} {xs : List V} {ds : List D} : SqX K W.H a xs → ds.length ≤ lim → RpL W ds xs → Rp W (.tup ds) (.ref a)
  | pr {a : Addr} {u v : V} {d e : D} : SqT K W.H a [u, v] → d.ok = true → e.ok = true → Rp W d u → Rp W e v → Rp W (.pr d e) (.ref a)
  | lst {a : Addr} {xs : List V} {ds : List D} : Rd W.H a (.lst xs) → ¬ W.F a → ds.length ≤ lim → RpL W ds xs → Rp W (.lst ds) (.ref a)
  | own {a : Addr} {xs : List V} {ds : List D} : W.H a = some (.lst xs) → W.F a → a ∉ W.as → ds.length ≤ lim → RpL W ds xs → Rp W (.own ds) (.ref a)
  | ref {n : Nat} {a : Addr} : W.as[n]? = some a → Rp W (.ref n) (.ref a)
inductive RpL (W : Wd) : List D → List V → Prop
  | nil : RpL W [] []
  | cons {d : D} {v : V} {ds : List D} {vs : List V} : d.ok = true → Rp W d v → RpL W ds vs → RpL W (d :: ds) (v :: vs)
end

def toK : Kd → Key
  | .inl i => .inl i
  | .inr s => .inr (S s)
def kdOk : Kd → Bool
  | .inl _ => true
  | .inr s => s.all (· < 0x110000) && decide (s.length ≤ lim)
/-- the table of the code object cd, if it lies outside K -/
def tabAt (K : PySem.W.Frag) (cd : Value) : Option (Addr × Addr) := match cd with
  | .ref c => (match K.lookup c with
    | some ⟨_, _, .fields vs, _⟩ => (match (vs[11]? : Option Value) with
      | some (Value.ref P) => if (K.lookup P).isNone then some (c, P) else none
      | _ => none)
    | _ => none)
  | _ => none
/-- what the lambdas of a def of this qualified name are called -/
def lamQ (q : Str) : Str := (PySem.W.envX q default 0 0 .none []).qual ++ ("<lambda>" : Str)
/-- the tables that may grow, and the names of what they hold -/
def tabsOf (K : PySem.W.Frag) : List (Addr × Str) := K.filterMap fun p => match p.2.data with
  | .func fd => (tabAt K fd.code).map fun z => (z.2, lamQ fd.qualname)
  | _ => none
/-- what a cell's object is -/
def CoOk (W : Wd) : Cell → HO → Prop
  | .lst ds, .lst xs => ds.length ≤ lim ∧ RpL K W ds xs
  | .dct kvs, .dK ps => kvs.length ≤ lim ∧ ps.map (·.1) = kvs.map (fun p => toK p.1) ∧ (∀ p ∈ kvs, kdOk p.1 = true) ∧ RpL K W (kvs.map (·.2)) (ps.map (·.2))
  | .tab q, .tbl ps => TriplesOk ps.toList ∧ ∀ (pos : Pos) (cv : Value), codeAmong pos ps.toList = some cv → ∃ c, cv = .ref c ∧ c ∉ W.as ∧ W.H c = some (LamX.CodeO c q)
  | _, _ => False
def CellOk (W : Wd) (c : Cell) (a : Addr) : Prop := ∃ o, W.H a = some o ∧ CoOk K W c o
/-- code objects stay -/
def Kc (W W1 : Wd) : Prop := ∀ c q, c ∉ W.as → W.H c = some (LamX.CodeO c q) → c ∉ W1.as ∧ W1.H c = some (LamX.CodeO c q)
theorem CoOk.imp {K : PySem.W.Frag} {W W1 : Wd} {c : Cell} {o : HO} (k : Kc W W1) (h : ∀ ds vs, RpL K W ds vs → RpL K W1 ds vs) (q : CoOk K W c o) : CoOk K W1 c o := by
  cases c with
  | lst ds => cases o <;> first | exact ⟨q.1, h _ _ q.2⟩ | exact q.elim
  | dct kvs => cases o <;> first | exact ⟨q.1, q.2.1, q.2.2.1, h _ _ q.2.2.2⟩ | exact q.elim
  | tab n =>
    cases o <;> first | (exact q.elim) | skip
    refine ⟨q.1, fun pos cv e => ?_⟩
    obtain ⟨c, e1, e2, e3⟩ := q.2 pos cv e
    obtain ⟨g1, g2⟩ := k c n e2 e3
    exact ⟨c, e1, g1, g2⟩
/-- no tuple, nothing frozen, no code object -/
def NoTF (o : HO) : Prop := (∀ xs, o ≠ .tup xs) ∧ (∀ ob u, o ≠ .frz ob u) ∧ ∀ φ, o ≠ .ext φ
theorem CoOk.ntf {K : PySem.W.Frag} {W : Wd} {c : Cell} {o : HO} (q : CoOk K W c o) : NoTF o := by
  cases c <;> cases o <;> first | exact q.elim | exact ⟨fun _ e => (by cases e), fun _ _ e => (by cases e), fun _ e => (by cases e)⟩
theorem CellOk.lst {K : PySem.W.Frag} {W : Wd} {ds : List D} {a : Addr} (q : CellOk K W (.lst ds) a) : ∃ xs, W.H a = some (.lst xs) ∧ ds.length ≤ lim ∧ RpL K W ds xs := by
  obtain ⟨o, e, q⟩ := q
  cases o <;> first | exact ⟨_, e, q.1, q.2⟩ | exact q.elim
theorem CellOk.dct {K : PySem.W.Frag} {W : Wd} {kvs : List (Kd × D)} {a : Addr} (q : CellOk K W (.dct kvs) a) : ∃ ps, W.H a = some (.dK ps) ∧ kvs.length ≤ lim ∧ ps.map (·.1) = kvs.map (fun p => toK p.1) ∧ (∀ p ∈ kvs, kdOk p.1 = true) ∧ RpL K W (kvs.map (·.2)) (ps.map (·.2)) := by
  obtain ⟨o, e, q⟩ := q
  cases o <;> first | exact ⟨_, e, q⟩ | exact q.elim

structure StOk (W : Wd) (S : Store) : Prop where
  len : S.length = W.as.length
  nd : W.as.Nodup
  inF : ∀ a ∈ W.as, W.F a
  tr : ∀ a, W.F a → W.H a ≠ none
  cell : ∀ (n : Nat) c a, S[n]? = some c → W.as[n]? = some a → CellOk K W c a
  tab : ∀ (i : Nat) p, (tabsOf K)[i]? = some p → S[i]? = some (.tab p.2) ∧ W.as[i]? = some p.1

/-- from one world to a later one -/
structure Nxt (W W' : Wd) : Prop where
  kp : ∀ b o, W.H b = some o → b ∉ W.as → W'.H b = some o
  tp : ∀ b xs, W.H b = some (.tup xs) → W'.H b = some (.tup xs)
  fz : ∀ b o u, W.H b = some (.frz o u) → W'.H b = some (.frz o u)
  pre : W.as <+: W'.as
  fF : ∀ b, W.F b → W'.F b
  fN : ∀ b, W'.F b → W.F b ∨ W.H b = none
  aN : ∀ b ∈ W'.as, b ∈ W.as ∨ W.H b = none
end

section
variable {K : PySem.W.Frag} {W W1 W2 : Wd}
theorem Nxt.refl : Nxt W W := ⟨fun _ _ h _ => h, fun _ _ h => h, fun _ _ _ h => h, List.prefix_refl _, fun _ h => h, fun _ h => .inl h, fun _ h => .inl h⟩
theorem none_of {W W1 : Wd} (a : Nxt W W1) (haF : ∀ b ∈ W.as, W.H b ≠ none) {b : Addr} (h : W1.H b = none) (hb : b ∉ W.as) : W.H b = none := by
  cases q : W.H b with
  | none => rfl
  | some o => rw [a.kp b o q hb] at h; cases h
theorem Nxt.kc (n : Nxt W W1) : Kc W W1 := fun c q h1 h2 => ⟨fun z => (n.aN c z).elim h1 fun e => (by rw [h2] at e; cases e), n.kp c _ h2 h1⟩
theorem Nxt.trans (a : Nxt W W1) (b : Nxt W1 W2) (hk : ∀ x ∈ W1.as, W1.H x ≠ none) : Nxt W W2 where
  kp := fun x o h hx => by
    have h1 := a.kp x o h hx
    refine b.kp x o h1 fun hm => ?_
    rcases a.aN x hm with z | z
    · exact hx z
    · rw [h] at z; cases z
  tp := fun x xs h => b.tp x xs (a.tp x xs h)
  fz := fun x o u h => b.fz x o u (a.fz x o u h)
  pre := a.pre.trans b.pre
  fF := fun x h => b.fF x (a.fF x h)
  fN := fun x h => by
    rcases b.fN x h with z | z
    · exact a.fN x z
    · by_cases hx : x ∈ W.as
      · exact absurd z (hk x (a.pre.subset hx))
      · cases q : W.H x with
        | none => exact .inr rfl
        | some o => rw [a.kp x o q hx] at z; cases z
  aN := fun x h => by
    rcases b.aN x h with z | z
    · exact a.aN x z
    · by_cases hx : x ∈ W.as
      · exact .inl hx
      · cases q : W.H x with
        | none => exact .inr rfl
        | some o => rw [a.kp x o q hx] at z; cases z
theorem StOk.trk {S : Store} (s : StOk K W S) : ∀ x ∈ W.as, W.H x ≠ none := fun x h => s.tr x (s.inF x h)
theorem Nxt.rd (n : Nxt W W1) (hF : ∀ a ∈ W.as, W.F a) {a : Addr} {xs : List V} (h : Rd W.H a (.lst xs)) (nf : ¬ W.F a) : Rd W1.H a (.lst xs) ∧ ¬ W1.F a := by
  have na : a ∉ W.as := fun z => nf (hF a z)
  have ht : W.H a ≠ none := by
    rcases h with h | ⟨o, h⟩
    · rw [h]; simp
    · rw [h]; simp
  refine ⟨?_, fun z => ?_⟩
  · rcases h with h | ⟨o, h⟩
    · exact .inl (n.kp a _ h na)
    · exact .inr ⟨o, n.fz a _ _ h⟩
  · rcases n.fN a z with q | q
    · exact nf q
    · exact ht q
theorem Nxt.sqT (n : Nxt W W1) {a : Addr} {xs : List V} (h : SqT K W.H a xs) : SqT K W1.H a xs := by
  rcases h with (h | ⟨o, h⟩) | h
  · exact .inl (.inl (n.tp _ _ h))
  · exact .inl (.inr ⟨o, n.fz _ _ _ h⟩)
  · exact .inr h
theorem Nxt.sqX (n : Nxt W W1) {a : Addr} {xs : List V} (h : SqX K W.H a xs) : SqX K W1.H a xs := by
  rcases h with ⟨o, d, h⟩ | h
  · exact .inl ⟨o, d, n.fz _ _ _ h⟩
  · exact .inr h
mutual
theorem Nxt.rp (n : Nxt W W1) (hF : ∀ a ∈ W.as, W.F a) : ∀ {d : D} {v : V}, Rp K W d v → Rp K W1 d v
  | _, _, .non => .non
  | _, _, .bl b => .bl b
  | _, _, .int i => .int i
  | _, _, .str s h z => .str s h z
  | _, _, .tup h z r => .tup (n.sqX h) z (Nxt.rpL n hF r)
  | _, _, .pr h o1 o2 r1 r2 => .pr (n.sqT h) o1 o2 (Nxt.rp n hF r1) (Nxt.rp n hF r2)
  | _, _, .lst h nf z r => let ⟨a, b⟩ := n.rd hF h nf; .lst a b z (Nxt.rpL n hF r)
  | _, _, .own h f na z r => .own (n.kp _ _ h na) (n.fF _ f) (fun z => (n.aN _ z).elim na fun q => by rw [h] at q; cases q) z (Nxt.rpL n hF r)
  | _, _, .ref h => .ref (by
      obtain ⟨t, e⟩ := n.pre
      rw [← e, List.getElem?_append_left (List.getElem?_eq_some_iff.mp h).1]; exact h)
theorem Nxt.rpL (n : Nxt W W1) (hF : ∀ a ∈ W.as, W.F a) : ∀ {ds : List D} {vs : List V}, RpL K W ds vs → RpL K W1 ds vs
  | _, _, .nil => .nil
  | _, _, .cons o h r => .cons o (Nxt.rp n hF h) (Nxt.rpL n hF r)
end
theorem RpL.length {ds : List D} {vs : List V} (r : RpL K W ds vs) : ds.length = vs.length := by
  induction ds generalizing vs with
  | nil => cases r; rfl
  | cons d ds ih =>
    cases r with
    | cons o h r => simp [ih r]
theorem RpL.get {ds : List D} {vs : List V} (r : RpL K W ds vs) {i : Nat} {d : D} (h : ds[i]? = some d) : ∃ v, vs[i]? = some v ∧ d.ok = true ∧ Rp K W d v := by
  induction ds generalizing vs i with
  | nil => simp at h
  | cons e ds ih =>
    cases r with
    | cons o h1 r =>
      cases i with
      | zero => simp at h; subst h; exact ⟨_, rfl, o, h1⟩
      | succ i => simpa using ih r (by simpa using h)
theorem RpL.append {ds es : List D} {vs us : List V} (r : RpL K W ds vs) (q : RpL K W es us) : RpL K W (ds ++ es) (vs ++ us) := by
  induction ds generalizing vs with
  | nil => cases r; exact q
  | cons d ds ih =>
    cases r with
    | cons o h r => exact .cons o h (ih r)
theorem RpL.set {ds : List D} {vs : List V} (r : RpL K W ds vs) {d : D} {v : V} (ok : d.ok = true) (h : Rp K W d v) (i : Nat) : RpL K W (ds.set i d) (vs.set i v) := by
  induction ds generalizing vs i with
  | nil => cases r; exact .nil
  | cons e ds ih =>
    cases r with
    | cons o h1 r =>
      cases i with
      | zero => exact .cons ok h r
      | succ i => exact .cons o h1 (ih r i)
theorem RpL.take {ds : List D} {vs : List V} (r : RpL K W ds vs) (n : Nat) : RpL K W (ds.take n) (vs.take n) := by
  induction ds generalizing vs n with
  | nil => cases r; simp; exact .nil
  | cons e ds ih =>
    cases r with
    | cons o h1 r =>
      cases n with
      | zero => exact .nil
      | succ n => exact .cons o h1 (ih r n)
theorem RpL.drop {ds : List D} {vs : List V} (r : RpL K W ds vs) (n : Nat) : RpL K W (ds.drop n) (vs.drop n) := by
  induction ds generalizing vs n with
  | nil => cases r; simp; exact .nil
  | cons e ds ih =>
    cases r with
    | cons o h1 r =>
      cases n with
      | zero => exact .cons o h1 r
      | succ n => exact ih r n
theorem RpL.reverse {ds : List D} {vs : List V} (r : RpL K W ds vs) : RpL K W ds.reverse vs.reverse := by
  induction ds generalizing vs with
  | nil => cases r; exact .nil
  | cons e ds ih =>
    cases r with
    | cons o h1 r =>
      rw [List.reverse_cons, List.reverse_cons]
      exact (ih r).append (.cons o h1 .nil)

/-- a new object is tracked -/
def Wd.new (W : Wd) (p : Addr) (o : HO) : Wd := { W with H := upd W.H p o }
theorem Nxt.new {S : Store} (s : StOk K W S) {p : Addr} {o : HO} (hp : W.H p = none) : Nxt W (W.new p o) where
  kp := fun b u h _ => by
    show upd W.H p o b = some u
    rw [upd_ne (ne_of_none h hp)]; exact h
  tp := fun b u h => by
    show upd W.H p o b = _
    rw [upd_ne (ne_of_none h hp)]; exact h
  fz := fun b u x h => by
    show upd W.H p o b = _
    rw [upd_ne (ne_of_none h hp)]; exact h
  pre := List.prefix_refl _
  fF := fun _ h => h
  fN := fun _ h => .inl h
  aN := fun _ h => .inl h
theorem StOk.next {S : Store} (s : StOk K W S) (n : Nxt W W1) (ha : W1.as = W.as) (hF : ∀ a, W1.F a → W1.H a ≠ none) (hc : ∀ a ∈ W.as, W1.H a = W.H a) : StOk K W1 S where
  len := by rw [ha]; exact s.len
  nd := by rw [ha]; exact s.nd
  inF := fun a h => n.fF a (s.inF a (by rw [← ha]; exact h))
  tr := hF
  cell := fun i c a h1 h2 => by
    rw [ha] at h2
    have q := s.cell i c a h1 h2
    obtain ⟨o, e, r⟩ := q
    exact ⟨o, by rw [hc a (List.mem_of_getElem? h2)]; exact e, r.imp n.kc fun _ _ => n.rpL s.inF⟩
  tab := fun i p h => by rw [ha]; exact s.tab i p h
theorem StOk.new {S : Store} (s : StOk K W S) {p : Addr} {o : HO} (hp : W.H p = none) : StOk K (W.new p o) S :=
  s.next (Nxt.new s hp) rfl (fun a h => by
    have q := s.tr a h
    show upd W.H p o a ≠ none
    have : a ≠ p := fun e => q (by rw [e]; exact hp)
    rw [upd_ne this]; exact q) fun a h => by
    have q := s.trk a h
    show upd W.H p o a = _
    have : a ≠ p := fun e => q (by rw [e]; exact hp)
    rw [upd_ne this]
theorem StOk.tabS {S : Store} (s : StOk K W S) (i : Nat) (p : Addr × Str) (h : (tabsOf K)[i]? = some p) (T : Store) : (S ++ T)[i]? = some (.tab p.2) := by
  have q := (s.tab i p h).1
  rw [List.getElem?_append_left (List.getElem?_eq_some_iff.mp q).1]
  exact q
theorem StOk.tabA {S : Store} (s : StOk K W S) (i : Nat) (p : Addr × Str) (h : (tabsOf K)[i]? = some p) (T : List Addr) : (W.as ++ T)[i]? = some p.1 := by
  have q := (s.tab i p h).2
  rw [List.getElem?_append_left (List.getElem?_eq_some_iff.mp q).1]
  exact q
theorem StOk.notF {S : Store} (s : StOk K W S) {p : Addr} (hp : W.H p = none) : ¬ W.F p := fun h => s.tr p h hp
/-- fewer may be changed -/
theorem Rd.def_ {H : Hp} {a : Addr} {o : HO} (h : Rd H a o) : H a ≠ none := by
  rcases h with h | ⟨u, h⟩ <;> rw [h] <;> simp
mutual
theorem Rp.fewer {F' : Addr → Prop} (hF : ∀ a, F' a → W.F a) : ∀ {d : D} {v : V}, d.ok = true → Rp K W d v → Rp K ⟨W.H, W.as, F'⟩ d v
  | _, _, _, .non => .non
  | _, _, _, .bl b => .bl b
  | _, _, _, .int i => .int i
  | _, _, _, .str s h z => .str s h z
  | _, _, _, .tup h z r => .tup h z (RpL.fewer hF r)
  | _, _, _, .pr h o1 o2 r1 r2 => .pr h o1 o2 (Rp.fewer hF o1 r1) (Rp.fewer hF o2 r2)
  | _, _, _, .lst h nf z r => .lst h (fun z => nf (hF _ z)) z (RpL.fewer hF r)
  | _, _, o, .own h f na z r => by cases o
  | _, _, _, .ref h => .ref h
theorem RpL.fewer {F' : Addr → Prop} (hF : ∀ a, F' a → W.F a) : ∀ {ds : List D} {vs : List V}, RpL K W ds vs → RpL K ⟨W.H, W.as, F'⟩ ds vs
  | _, _, .nil => .nil
  | _, _, .cons o h r => .cons o (Rp.fewer hF o h) (RpL.fewer hF r)
end
end
end Ev

namespace Ev
open PySem PySem.Spec PyProof.Rows L2
open SX (S S_cat S_len S_inj S_tl)

/-- the items of a list or a tuple that is read -/
def D.seq? : D → Option (List D)
  | .tup l => some l
  | .lst l => some l
  | .own l => some l
  | _ => none
def D.lst? : D → Option (List D)
  | .lst l => some l
  | .own l => some l
  | _ => none
mutual
/-- no cells within, at most so deep -/
def D.fit : Nat → D → Bool
  | _, .non => true
  | _, .bl _ => true
  | _, .int _ => true
  | _, .str _ => true
  | n, .tup l => (match n with | 0 => false | n + 1 => D.fitL n l)
  | n, .lst l => (match n with | 0 => false | n + 1 => D.fitL n l)
  | n, .own l => (match n with | 0 => false | n + 1 => D.fitL n l)
  | _, .ref _ => false
  | _, .pr _ _ => false
def D.fitL : Nat → List D → Bool
  | _, [] => true
  | n, d :: ds => D.fit n d && D.fitL n ds
end
mutual
/-- Python's == of plain data -/
def D.eq : D → D → Bool
  | .non, .non => true
  | .bl a, .bl b => a == b
  | .bl a, .int j => (if a then 1 else 0) == j
  | .int i, .bl b => i == (if b then 1 else 0)
  | .int i, .int j => i == j
  | .str x, .str y => x == y
  | .tup xs, .tup ys => D.eqL xs ys
  | .lst xs, .lst ys => D.eqL xs ys
  | .lst xs, .own ys => D.eqL xs ys
  | .own xs, .lst ys => D.eqL xs ys
  | .own xs, .own ys => D.eqL xs ys
  | _, _ => false
def D.eqL : List D → List D → Bool
  | [], [] => true
  | x :: xs, y :: ys => D.eq x y && D.eqL xs ys
  | _, _ => false
end
def deep : Nat := 60
/-- the index that Python means -/
def pyIx (n : Nat) (i : Int) : Option Nat := L2.ixN n i
def pyAt {α : Type} (l : List α) (i : Int) : Option α := (pyIx l.length i).bind fun j => l[j]?
def pyCut {α : Type} (l : List α) (lo hi : Option Int) : List α := (l.drop (HT.sIx l.length 0 lo)).take (HT.sIx l.length l.length hi - HT.sIx l.length 0 lo)

inductive Uo where
  | neg | len | int | all | any | tuple | list | isStr | isTup | isInt | isBl | isLst | rev
  deriving DecidableEq
inductive Bo where
  | add | sub | mul | mod | fdiv | pow | eq | ne | lt | le | gt | ge | inn | nin | is | isn | ix | min | max | join | split
  deriving DecidableEq

def blsOf : List D → Option (List Bool)
  | [] => some []
  | .bl b :: r => (blsOf r).map (b :: ·)
  | _ => none
def strsOf : List D → Option (List (List Nat))
  | [] => some []
  | .str s :: r => (strsOf r).map (s :: ·)
  | _ => none
def uop : Uo → D → Option D
  | .neg, .int i => some (.int (-i))
  | .len, .str s => some (.int s.length)
  | .len, d => d.seq?.map fun l => .int l.length
  | .int, .int i => some (.int i)
  | .int, .bl b => some (.int (if b then 1 else 0))
  | .all, d => d.lst?.bind fun l => (blsOf l).map fun bs => .bl (bs.all id)
  | .any, d => d.lst?.bind fun l => (blsOf l).map fun bs => .bl (bs.any id)
  | .tuple, d => d.seq?.map .tup
  | .list, d => d.seq?.map .lst
  | .isStr, d => (match d with | .ref _ => none | .pr _ _ => none | .str _ => some (.bl true) | _ => some (.bl false))
  | .isTup, d => (match d with | .ref _ => none | .pr _ _ => none | .tup _ => some (.bl true) | _ => some (.bl false))
  | .isInt, d => (match d with | .ref _ => none | .pr _ _ => none | .int _ => some (.bl true) | .bl _ => some (.bl true) | _ => some (.bl false))
  | .isBl, d => (match d with | .ref _ => none | .pr _ _ => none | .bl _ => some (.bl true) | _ => some (.bl false))
  | .isLst, d => (match d with | .ref _ => none | .pr _ _ => none | .lst _ => some (.bl true) | .own _ => some (.bl true) | _ => some (.bl false))
  | .rev, .tup l => some (.tup l.reverse)
  | .rev, d => d.lst?.map fun l => .lst l.reverse
  | _, _ => none
def eqO (a b : D) : Option Bool := if a.fit deep && b.fit deep then some (a.eq b) else none
def inO (x y : D) : Option Bool := match y with
  | .str s => (match x with | .str [c] => some (decide (c ∈ s)) | _ => none)
  | y => y.seq?.bind fun l => if x.fit deep && D.fitL deep l then some (l.any fun z => z.eq x) else none
def ltO : D → D → Option Bool
  | .int i, .int j => some (decide (i < j))
  | .str s, .str t => some (decide (s < t))
  | _, _ => none
def leO : D → D → Option Bool
  | .int i, .int j => some (decide (i ≤ j))
  | .str s, .str t => some (decide (s ≤ t))
  | _, _ => none
def isO : D → D → Option Bool
  | .non, .non => some true
  | _, .non => some false
  | .bl a, .bl b => some (decide (a = b))
  | _, .bl _ => some false
  | _, _ => none
def big : Int := 2 ^ 64
def bop : Bo → D → D → Option D
  | .add, .int i, .int j => some (.int (i + j))
  | .add, .str s, .str t => if s.length + t.length ≤ lim then some (.str (s ++ t)) else none
  | .add, .tup l, .tup m => if l.length + m.length ≤ lim then some (.tup (l ++ m)) else none
  | .add, a, b => a.lst?.bind fun l => b.lst?.bind fun m => if l.length + m.length ≤ lim then some (.lst (l ++ m)) else none
  | .sub, .int i, .int j => some (.int (i - j))
  | .mul, .int i, .int j => if (-big < i ∧ i < big) ∨ (-big < j ∧ j < big) then some (.int (i * j)) else none
  | .mul, a, .int k => a.lst?.bind fun l => if -(2 ^ 63) ≤ k ∧ k < 2 ^ 63 ∧ l.length * k.toNat ≤ lim then some (.lst (List.replicate k.toNat l).flatten) else none
  | .mod, .int i, .int j => if 0 < j then some (.int (i % j)) else none
  | .fdiv, .int i, .int j => if 0 < j ∧ j < 1073741824 then some (.int (i / j)) else none
  | .pow, .int i, .int j => if 0 ≤ j ∧ j ≤ 1000000 ∧ i.natAbs < 2 ^ 64 then some (.int (i ^ j.toNat)) else none
  | .eq, a, b => (eqO a b).map .bl
  | .ne, a, b => (eqO a b).map fun k => .bl (!k)
  | .lt, a, b => (ltO a b).map .bl
  | .le, a, b => (leO a b).map .bl
  | .gt, a, b => (ltO b a).map .bl
  | .ge, a, b => (leO b a).map .bl
  | .inn, a, b => (inO a b).map .bl
  | .nin, a, b => (inO a b).map fun k => .bl (!k)
  | .is, a, b => (isO a b).map .bl
  | .isn, a, b => (isO a b).map fun k => .bl (!k)
  | .ix, .str s, .int i => (pyAt s i).map fun c => .str [c]
  | .ix, a, .int i => a.seq?.bind fun l => pyAt l i
  | .join, .str a, b => b.seq?.bind fun l => (strsOf l).bind fun ys => if (ys.map (·.length)).sum + ys.length * a.length ≤ lim ∧ (TL.joinL a ys).all (· < 0x110000) = true ∧ (TL.joinL a ys).length ≤ lim then some (.str (TL.joinL a ys)) else none
  | .split, .str a, .str b => if b ≠ [] ∧ b.all (· < 256) = true ∧ a.length + 2 ≤ lim ∧ (TL.spl b 0 [] a).all (fun p => p.all (· < 0x110000) && decide (p.length ≤ lim)) = true ∧ (TL.spl b 0 [] a).length ≤ lim then some (.lst ((TL.spl b 0 [] a).map .str)) else none
  | .min, .int i, .int j => some (.int (if j < i then j else i))
  | .max, .int i, .int j => some (.int (if j > i then j else i))
  | _, _, _ => none
def cutO (a : D) (lo hi : Option Int) : Option D := match a with
  | .tup l => some (.tup (pyCut l lo hi))
  | .lst l => some (.lst (pyCut l lo hi))
  | .own l => some (.lst (pyCut l lo hi))
  | _ => none

/-- x.index(y), y in x -/
def idxL (x y : D) : Option D := x.lst?.bind fun l => if y.fit deep && D.fitL deep l then (l.findIdx? fun z => z.eq y).map fun (i : Nat) => D.int (i : Int) else none
def idxT (x y : D) : Option D := match x, y with
  | .tup l, .str s => (strsOf l).bind fun ss => (ss.findIdx? fun z => z == s).map fun (i : Nat) => D.int (i : Int)
  | _, _ => none
def idxO (t : Bool) (x y : D) : Option D := if t then idxT x y else idxL x y

/-- an except clause: the classes that it catches and those that it lets pass, the name, what it returns (a constant, or the error's field) -/
structure Hd where
  j : Nat
  cs : List Nat
  ns : List Nat
  as : Option Nat
  r : Sum D Str
/-- a def that calls what it gets: its name; whether it returns what comes; its clauses; what it returns behind them -/
structure Th where
  nm : Str
  ret : Bool
  hs : List Hd
  last : D
inductive Ex where
  | nil | cons (a r : Ex)
  | var (i : Nat) | lit (d : D) | con (g : Nat)
  | tup (l : Ex) | lst (l : Ex)
  | un (o : Uo) (a : Ex) | bi (o : Bo) (a b : Ex)
  | ch (o p : Bo) (a b c : Ex)
  | not (a : Ex) | and (a b : Ex) | or (a b : Ex) | ite (c a b : Ex)
  | cut (a lo hi : Ex)
  | call (f : Nat) (l : Ex)
  | comp (tg : List Nat) (c elt it : Ex)
  | val (a : Ex) | rng1 (a : Ex) | rng2 (a b : Ex) | zip (a b : Ex) | enu (a : Ex)
  | cel (a : Ex) | at0 (a j : Ex) | meth (o : Bo) (a b : Ex) | dct (ks : List Kd) (l : Ex) | get2 (a b c : Ex)
  | idx (t : Bool) (a b : Ex) | lam (h : Th) (e : Ex)
inductive Sx where
  | nil | cons (s r : Sx)
  | skip
  | set (i : Nat) (e : Ex) | own (i : Nat) (e : Ex) | frz (i : Nat)
  | unp (is : List Nat) (e : Ex) | par (is : List Nat) (l : Ex)
  | app (i : Nat) (e : Ex) | put (a : Ex) (j : Ex) (e : Ex) | bad
  | ret (e : Ex) | drop (e : Ex)
  | ite (c : Ex) (t e : Sx) | for_ (tg : List Nat) (it : Ex) (b : Sx) | whl (n : Nat) (c : Ex) (b : Sx)
  | paro (i j : Nat) (both : Bool) (a b : Ex)
  | rse (c : Nat) | rsf (c : Nat) (f : Str) (e : Ex) | try_ (b : Sx) (hs : List Hd)

abbrev Fun := Nat → List D → M D
def slot (ρ : Env) (i : Nat) : Option D := match ρ[i]? with
  | some (some d) => some d
  | _ => none
def asBl : D → M Bool
  | .bl b => pur b
  | _ => non
def asOk (d : D) : M D := if d.ok then pur d else non
def sets : List Nat → List D → Env → Env
  | i :: is, d :: ds, ρ => sets is ds (ρ.set i (some d))
  | _, _, ρ => ρ
def bindTs (is : List Nat) (d : D) (ρ : Env) : Option Env := match d with
  | .tup ds => if ds.length = is.length then some (sets is ds ρ) else none
  | .pr a b => if is.length = 2 then some (sets is [a, b] ρ) else none
  | _ => none
def bindT (tg : List Nat) (d : D) (ρ : Env) : Option Env := match tg with
  | [i] => some (ρ.set i (some d))
  | is => bindTs is d ρ
/-- one target alone is a name; (a,) is never written -/
def compL (f : D → M (Option D)) : List D → M (List D)
  | [] => pur []
  | d :: ds => bnd (f d) fun o => bnd (compL f ds) fun r => pur (match o with | some x => x :: r | none => r)
def wipeE (ρ : Env) : List Nat → Env
  | [] => ρ
  | i :: is => (wipeE ρ is).set i none
def itemsOf : D → Option (List D)
  | .tup l => some l
  | .lst l => some l
  | .str s => some (s.map fun c => .str [c])
  | _ => none
def zipO (x y : D) : Option (List D × List D) := match x, y with
  | .tup l, .tup m => some (l, m)
  | .lst l, .lst m => some (l, m)
  | _, _ => none
def rngL (a b : Int) : List D := (List.range (b - a).toNat).map fun (i : Nat) => D.int (a + i)
def zipL (l m : List D) : List D := (l.zip m).map fun p => .pr p.1 p.2
def enuL (l : List D) : List D := (List.range l.length).zip l |>.map fun p => .pr (.int p.1) p.2
def rngOk (i : Int) : Bool := decide (-16777216 ≤ i ∧ i ≤ 16777216)
def noE {α : Type} (m : M α) : M α := fun S => match m S with
  | some (.err _, _) => none
  | r => r
def lstK {β : Type} (k : List D → M β) : D → M β
  | .lst l => k l
  | _ => non
def celK (l : List D) : M D := fun s => some (.ok (.ref s.length), s ++ [.lst l])
def celD (kvs : List (Kd × D)) : M D := fun s => some (.ok (.ref s.length), s ++ [.dct kvs])
def keyOf : D → Option Kd
  | .int i => some (.inl i)
  | .str s => some (.inr s)
  | _ => none
def dGet (kvs : List (Kd × D)) (k : Kd) : Option D := (kvs.find? fun p => decide (p.1 = k)).map (·.2)
def dPut (kvs : List (Kd × D)) (k : Kd) (d : D) : List (Kd × D) :=
  if (kvs.any fun p => decide (p.1 = k)) = true then kvs.map (fun p => if p.1 = k then (p.1, d) else p) else kvs ++ [(k, d)]
def dMk (ks : List Kd) (ds : List D) : List (Kd × D) := (ks.zip ds).foldl (fun acc p => dPut acc p.1 p.2) []
def celOf : D → M D := lstK celK
def atOf (x y : D) : M D := fun s => match x with
  | .ref n => (match s[n]? with
    | some (.lst l) => (match y with
      | .int k => (match pyAt l k with
        | some d => some (.ok d, s)
        | none => none)
      | _ => none)
    | some (.dct kvs) => (match keyOf y with
      | some k => (match dGet kvs k with
        | some d => some (.ok d, s)
        | none => none)
      | none => none)
    | some (.tab _) => none
    | none => none)
  | _ => none
def putOf (x z y : D) : M Unit := fun s => match x with
  | .ref n => (match s[n]? with
    | some (.lst l) => (match z with
      | .int k => (match pyIx l.length k with
        | some m => some (.ok (), s.set n (.lst (l.set m y)))
        | none => none)
      | _ => none)
    | some (.dct kvs) => (match keyOf z with
      | some k => if kvs.length < lim then some (.ok (), s.set n (.dct (dPut kvs k y))) else none
      | none => none)
    | some (.tab _) => none
    | none => none)
  | _ => none
def isStrM : D → M Unit
  | .str _ => pur ()
  | _ => non
def isDct (x : D) : M Unit := fun s => match x with
  | .ref n => (match s[n]? with
    | some (.dct _) => some (.ok (), s)
    | _ => none)
  | _ => none
/-- x.get(y, z) -/
def getOf (x y z : D) : M D := fun s => match x with
  | .ref n => (match s[n]? with
    | some (.dct kvs) => (match keyOf y with
      | some k => some (.ok ((dGet kvs k).getD z), s)
      | none => none)
    | _ => none)
  | _ => none
def intOf : D → M (Option Int)
  | .int i => pur (some i)
  | _ => non
def rng1Of : D → M (List D)
  | .int i => if rngOk i then pur (rngL 0 i) else non
  | _ => non
def rng2Of : D → D → M (List D)
  | .int i, .int j => if rngOk i && (rngOk j && rngOk (j - i)) then pur (rngL i j) else non
  | _, _ => non
def zipOf (x y : D) : M (List D) := match zipO x y with
  | some p => pur (zipL p.1 p.2)
  | none => non
def enuOf : D → M (List D)
  | .lst l => pur (enuL l)
  | .tup l => pur (enuL l)
  | _ => non
def isSqM (t : Bool) (x : D) : M Unit := match t, x with
  | false, .lst _ => pur ()
  | false, .own _ => pur ()
  | true, .tup _ => pur ()
  | _, _ => non
/-- what the clauses make of an exception -/
def hdR : List Hd → Exc → M D
  | [], e => raise e
  | h :: r, e => if e.c ∈ h.cs then (match h.r with
      | .inl d => pur d
      | .inr f => (match e.p with
        | some (g, x) => if g = f then asOk x else non
        | none => non)) else if e.c ∈ h.ns then hdR r e else non
def lamF (h : Th) (m : M D) : M D := fun s => match m s with
  | some (.ok x, s') => if h.ret then asOk x s' else some (.ok h.last, s')
  | some (.err e, s') => hdR h.hs e s'
  | none => none
section
variable (Φ : Fun) (C : Nat → Option D)
mutual
def ev : Ex → Env → M D
  | .var i, ρ => ofO (slot ρ i)
  | .lit d, _ => pur d
  | .con g, _ => ofO (C g)
  | .tup l, ρ => bnd (evL l ρ) fun ds => pur (.tup ds)
  | .lst l, ρ => bnd (evL l ρ) fun ds => pur (.lst ds)
  | .un o a, ρ => bnd (ev a ρ) fun x => ofO (uop o x)
  | .bi o a b, ρ => bnd (ev a ρ) fun x => bnd (ev b ρ) fun y => ofO (bop o x y)
  | .ch o p a b c, ρ => bnd (ev a ρ) fun x => bnd (ev b ρ) fun y => bnd (ofO (bop o x y)) fun t => bnd (asBl t) fun k =>
      if k then bnd (ev c ρ) fun z => ofO (bop p y z) else pur (.bl false)
  | .not a, ρ => bnd (ev a ρ) fun x => bnd (asBl x) fun k => pur (.bl (!k))
  | .and a b, ρ => bnd (ev a ρ) fun x => bnd (asBl x) fun k => if k then ev b ρ else pur (.bl false)
  | .or a b, ρ => bnd (ev a ρ) fun x => bnd (asBl x) fun k => if k then pur (.bl true) else ev b ρ
  | .ite c a b, ρ => bnd (ev c ρ) fun x => bnd (asBl x) fun k => if k then ev a ρ else ev b ρ
  | .meth o a b, ρ => bnd (ev a ρ) fun x => bnd (isStrM x) fun _ => bnd (ev b ρ) fun y => ofO (bop o x y)
  | .cut a lo hi, ρ => bnd (ev a ρ) fun x => bnd (evO lo ρ) fun l => bnd (evO hi ρ) fun h => ofO (cutO x l h)
  | .call f l, ρ => bnd (evL l ρ) fun ds => Φ f ds
  | .comp tg c elt it, ρ => bnd (itr it ρ) fun ds => bnd (noE (compL (fun d => bnd (ofO (bindT tg d (wipeE ρ tg))) fun ρ' =>
      bnd (evC c ρ') fun k => if k then bnd (ev elt ρ') fun x => bnd (asOk x) fun y => pur (some y) else pur none) ds)) fun r => pur (.lst r)
  | .cel a, ρ => bnd (ev a ρ) celOf
  | .at0 a j, ρ => bnd (ev a ρ) fun x => bnd (ev j ρ) fun y => atOf x y
  | .dct ks l, ρ => bnd (noE (evL l ρ)) fun ds => if ds.length = ks.length then celD (dMk ks ds) else non
  | .get2 a b c, ρ => bnd (ev a ρ) fun x => bnd (isDct x) fun _ => bnd (ev b ρ) fun y => bnd (ev c ρ) fun z => getOf x y z
  | .idx t a b, ρ => bnd (ev a ρ) fun x => bnd (isSqM t x) fun _ => bnd (ev b ρ) fun y => ofO (idxO t x y)
  | .lam h e, ρ => lamF h (ev e ρ)
  | _, _ => non
def evL : Ex → Env → M (List D)
  | .nil, _ => pur []
  | .cons a r, ρ => bnd (ev a ρ) fun x => bnd (asOk x) fun y => bnd (evL r ρ) fun ys => pur (y :: ys)
  | _, _ => non
/-- an optional int -/
def evO : Ex → Env → M (Option Int)
  | .nil, _ => pur none
  | .val a, ρ => bnd (ev a ρ) intOf
  | _, _ => non
/-- an optional test -/
def evC : Ex → Env → M Bool
  | .nil, _ => pur true
  | .val a, ρ => bnd (ev a ρ) asBl
  | _, _ => non
/-- what is walked -/
def itr : Ex → Env → M (List D)
  | .val a, ρ => bnd (ev a ρ) fun x => ofO (itemsOf x)
  | .rng1 a, ρ => bnd (ev a ρ) rng1Of
  | .rng2 a b, ρ => bnd (ev a ρ) fun x => bnd (asOk x) fun _ => bnd (ev b ρ) fun y => rng2Of x y
  | .zip a b, ρ => bnd (ev a ρ) fun x => bnd (asOk x) fun _ => bnd (ev b ρ) fun y => zipOf x y
  | .enu a, ρ => bnd (ev a ρ) enuOf
  | _, _ => non
end
inductive Fl where
  | nx (ρ : Env) | ret (d : D)
def ownK (own : Bool) (x : D) : M D := if own then lstK (fun l => pur (.own l)) x else asOk x
def tryF (hs : List Hd) (m : M Fl) : M Fl := fun s => match m s with
  | some (.err e, s') => bnd (hdR hs e) (fun d => pur (.ret d)) s'
  | r => r
def appK (m : M D) (i : Nat) (ρ : Env) : Option D → M Fl
  | some (.own l) => bnd m fun x => bnd (asOk x) fun y => if l.length < lim then pur (.nx (ρ.set i (some (.own (l ++ [y]))))) else non
  | _ => non
def frzK (g : Env → M Fl) (i : Nat) (ρ : Env) : Option D → M Fl
  | some (.own l) => g (ρ.set i (some (.lst l)))
  | some _ => g ρ
  | none => non
def forL (f : D → Env → M Fl) : List D → Env → M Fl
  | [], ρ => pur (.nx ρ)
  | d :: ds, ρ => bnd (f d ρ) fun r => (match r with
    | .nx ρ' => forL f ds ρ'
    | .ret x => pur (.ret x))
def whlN (c : Env → M Bool) (f : Env → M Fl) : Nat → Env → M Fl
  | 0, _ => non
  | n + 1, ρ => bnd (c ρ) fun k => if k then bnd (f ρ) fun r => (match r with
    | .nx ρ' => whlN c f n ρ'
    | .ret x => pur (.ret x)) else pur (.nx ρ)
def exS : Sx → Env → M Fl
  | .nil, ρ => pur (.nx ρ)
  | .cons s r, ρ => bnd (exS s ρ) fun x => (match x with
    | .nx ρ' => exS r ρ'
    | .ret d => pur (.ret d))
  | .skip, ρ => pur (.nx ρ)
  | .set i e, ρ => bnd (ev Φ C e ρ) fun x => bnd (asOk x) fun y => pur (.nx (ρ.set i (some y)))
  | .own i e, ρ => bnd (ev Φ C e ρ) (lstK fun l => pur (.nx (ρ.set i (some (.own l)))))
  | .frz i, ρ => frzK (fun ρ' => pur (.nx ρ')) i ρ (slot ρ i)
  | .unp is e, ρ => bnd (ev Φ C e ρ) fun x => bnd (ofO (bindTs is x ρ)) fun ρ' => pur (.nx ρ')
  | .par is l, ρ => bnd (evL Φ C l ρ) fun ds => if ds.length = is.length then pur (.nx (sets is ds ρ)) else non
  | .app i e, ρ => appK (ev Φ C e ρ) i ρ (slot ρ i)
  | .put i j e, ρ => bnd (ev Φ C e ρ) fun x => bnd (asOk x) fun y => bnd (ev Φ C i ρ) fun o => bnd (ev Φ C j ρ) fun z => bnd (putOf o z y) fun _ => pur (.nx ρ)
  | .bad, _ => non
  | .ret e, ρ => bnd (ev Φ C e ρ) fun x => bnd (asOk x) fun y => pur (.ret y)
  | .drop e, ρ => bnd (ev Φ C e ρ) fun _ => pur (.nx ρ)
  | .ite c t e, ρ => bnd (ev Φ C c ρ) fun x => bnd (asBl x) fun k => if k then exS t ρ else exS e ρ
  | .for_ tg it b, ρ => bnd (itr Φ C it ρ) fun ds => forL (fun d ρ' => bnd (ofO (bindT tg d ρ')) fun ρ'' => exS b ρ'') ds ρ
  | .paro i j both a b, ρ => bnd (ev Φ C a ρ) (lstK fun l => bnd (ev Φ C b ρ) fun x => bnd (ownK both x) fun y => pur (.nx ((ρ.set i (some (.own l))).set j (some y))))
  | .rse c, _ => raise ⟨c, none⟩
  | .rsf c f e, ρ => bnd (ev Φ C e ρ) fun x => bnd (asOk x) fun y => raise ⟨c, some (f, y)⟩
  | .try_ b hs, ρ => tryF hs (exS b ρ)
  | .whl n c b, ρ => whlN (fun ρ' => bnd (ev Φ C c ρ') asBl) (fun ρ' => exS b ρ') n ρ
end
structure Fd where
  nm : Str
  ps : Nat
  N : List Str
  body : Sx
  lam : Bool := false
def runF (T : List Fd) (C : Nat → Option D) : Nat → Fun
  | 0, _, _ => non
  | k + 1, i, ds => (match T[i]? with
    | some fd => if ds.length = fd.ps then bnd (exS (runF T C k) C fd.body (ds.map some ++ List.replicate (fd.N.length - ds.length) none)) fun r => (match r with
      | .nx _ => pur .non
      | .ret d => pur d) else non
    | none => non)
end Ev

namespace Ev
open PySem PySem.Spec PyProof.Rows L2
open SX (S S_cat S_len S_inj S_tl)

structure FrOk (K : PySem.W.Frag) (W0 W : Wd) (ρ : Env) (σ : L2.St) : Prop where
  nx : Nxt W0 W
  tr0 : ∀ a ∈ W0.as, W0.H a ≠ none
  tr1 : ∀ a, W0.F a → W0.H a ≠ none
  len : ρ.length = σ.length
  slot : ∀ (i : Nat) d, ρ[i]? = some (some d) → ∃ v, σ[i]? = some (some v) ∧ Rp K W d v
  own : ∀ (i : Nat) ds a, ρ[i]? = some (some (.own ds)) → σ[i]? = some (some (.ref a)) → W0.H a = none
  sep : ∀ (i j : Nat) ds es a, i ≠ j → ρ[i]? = some (some (.own ds)) → ρ[j]? = some (some (.own es)) → σ[i]? = some (some (.ref a)) → σ[j]? ≠ some (some (.ref a))
structure At (K : PySem.W.Frag) (σ : L2.St) (ρ : Env) (s : Store) (W0 W : Wd) : Prop where
  fr : FrOk K W0 W ρ σ
  st : StOk K W s
section
variable {K : PySem.W.Frag} {cv : Nat → Value} {σ : L2.St} {ρ : Env} {s s' : Store} {W0 W W' W1 : Wd}
theorem FrOk.next (f : FrOk K W0 W ρ σ) (st : StOk K W s) (n : Nxt W W') (hk : ∀ x ∈ W.as, W.H x ≠ none) : FrOk K W0 W' ρ σ where
  nx := f.nx.trans n hk
  tr0 := f.tr0
  tr1 := f.tr1
  len := f.len
  slot := fun i d h => let ⟨v, e, r⟩ := f.slot i d h; ⟨v, e, n.rp st.inF r⟩
  own := f.own
  sep := f.sep
theorem At.next (a : At K σ ρ s W0 W) (n : Nxt W W') (s1 : StOk K W' s') : At K σ ρ s' W0 W' := ⟨a.fr.next a.st n a.st.trk, s1⟩

/-- how an exception lies -/
def ErrOk (K : PySem.W.Frag) (cv : Nat → Value) (W : Wd) (e : Exc) (cls : Value) (d : Option Addr) : Prop := cls = cv e.c ∧ match e.p with
  | none => d = none
  | some (f, x) => ∃ a v, d = some a ∧ W.H a = some (.xd [(f, v)]) ∧ x.ok = true ∧ Rp K W x v
def Aft (K : PySem.W.Frag) (cv : Nat → Value) {α : Type} (W : Wd) (σ : L2.St) (wx : WX) (r : Option (Res α × Store)) (Q : α → Wd → Store → Prop) : Prop := match r with
  | some (.ok a, s') => ∀ W', Nxt W W' → StOk K W' s' → Q a W' s'
  | some (.err e, s') => ∀ W', Nxt W W' → StOk K W' s' → ∀ cls d, ErrOk K cv W' e cls d → wx cls d σ W'.H
  | none => False
theorem Aft.step {α : Type} {wx : WX} {r : Option (Res α × Store)} {Q : α → Wd → Store → Prop} (h : Aft K cv W σ wx r Q) (n : Nxt W W1) (hk : ∀ x ∈ W1.as, W1.H x ≠ none) : Aft K cv W1 σ wx r Q := by
  cases r with
  | none => exact h
  | some r =>
    obtain ⟨r, s'⟩ := r
    cases r with
    | ok a => exact fun W' n' st => h W' (n.trans n' hk) st
    | err e => exact fun W' n' st => h W' (n.trans n' hk) st
theorem Aft.mono {α : Type} {wx : WX} {r : Option (Res α × Store)} {Q Q' : α → Wd → Store → Prop} (h : Aft K cv W σ wx r Q) (hq : ∀ a W' s', Nxt W W' → StOk K W' s' → Q a W' s' → Q' a W' s') : Aft K cv W σ wx r Q' := by
  cases r with
  | none => exact h
  | some r =>
    obtain ⟨r, s'⟩ := r
    cases r with
    | ok a => exact fun W' n' st => hq a W' s' n' st (h W' n' st)
    | err e => exact h
theorem Aft.bnd {α β : Type} {wx : WX} {m : M α} {g : α → M β} {Q : β → Wd → Store → Prop} (h : Aft K cv W σ wx (bnd m g s) Q) : Aft K cv W σ wx (m s) fun a W1 s1 => Aft K cv W1 σ wx (g a s1) Q := by
  unfold Ev.bnd at h
  cases q : m s with
  | none => rw [q] at h; exact h
  | some r =>
    obtain ⟨r, s1⟩ := r
    rw [q] at h
    cases r with
    | ok a => exact fun W1 n st => Aft.step h n st.trk
    | err e => exact h
/-- a value that is at hand -/
theorem Aft.pur {α : Type} {wx : WX} {a : α} {Q : α → Wd → Store → Prop} (h : Aft K cv W σ wx (pur a s) Q) (st : StOk K W s) : Q a W s := h W Nxt.refl st
theorem Aft.ofO {α : Type} {wx : WX} {o : Option α} {Q : α → Wd → Store → Prop} (h : Aft K cv W σ wx (ofO o s) Q) : ∃ a, o = some a ∧ ∀ W', Nxt W W' → StOk K W' s → Q a W' s := by
  cases o with
  | none => exact False.elim h
  | some a => exact ⟨a, rfl, h⟩
end

/-- the reading of what f computes -/
def tE (K : PySem.W.Frag) (cv : Nat → Value) (wx : WX) (f : Env → M D) : TE := fun σ H Q => ∃ ρ s W0 W, W.H = H ∧ At K σ ρ s W0 W ∧ Aft K cv W σ wx (f ρ s) fun d W' _ => ∀ v, Rp K W' d v → Q v W'.H
def tT (K : PySem.W.Frag) (cv : Nat → Value) (wx : WX) (f : Env → M Bool) : TT := fun σ H Q => ∃ ρ s W0 W, W.H = H ∧ At K σ ρ s W0 W ∧ Aft K cv W σ wx (f ρ s) fun b W' _ => Q b W'.H
def tA (K : PySem.W.Frag) (cv : Nat → Value) (wx : WX) (f : Env → M (List D)) : TA := fun σ H Q => ∃ ρ s W0 W, W.H = H ∧ At K σ ρ s W0 W ∧ Aft K cv W σ wx (f ρ s) fun ds W' _ => ∀ vs, RpL K W' ds vs → Q vs W'.H
/-- a new list -/
def tN (K : PySem.W.Frag) (cv : Nat → Value) (wx : WX) (f : Env → M (List D)) : TE := fun σ H Q => ∃ ρ s W0 W, W.H = H ∧ At K σ ρ s W0 W ∧ Aft K cv W σ wx (f ρ s) fun ds W' _ => ∀ vs p, RpL K W' ds vs → ds.length ≤ lim → W'.H p = none → Q (.ref p) (upd W'.H p (.lst vs))
theorem PE.imp {X : Cx} {e : Expr} {t t' : TE} (h : PE X e t) (i : ∀ σ H Q, t' σ H Q → t σ H Q) : PE X e t' := ⟨fun pins s σ H Q I q => h.run pins s σ H Q I (i σ H Q q)⟩
theorem PT.imp {X : Cx} {e : Expr} {t t' : TT} (h : PT X e t) (i : ∀ σ H Q, t' σ H Q → t σ H Q) : PT X e t' := ⟨fun pins s σ H Q I q => h.run pins s σ H Q I (i σ H Q q)⟩
theorem PW.imp {X : Cx} {e : Expr} {t t' : TT} (h : PW X e t) (i : ∀ σ H Q, t' σ H Q → t σ H Q) : PW X e t' := ⟨fun w pins s σ H Q I q => h.run w pins s σ H Q I (i σ H Q q)⟩
theorem PA.imp {X : Cx} {e : List Expr} {t t' : TA} (h : PA X e t) (i : ∀ σ H Q, t' σ H Q → t σ H Q) : PA X e t' := ⟨fun pos pins s σ H Q I q => h.run pos pins s σ H Q I (i σ H Q q)⟩
theorem PS.imp {X : Cx} {e : Stmt} {t t' : TS} (h : PS X e t) (i : ∀ σ H Q, t' Q σ H → t Q σ H) : PS X e t' := ⟨fun pins s σ H Q I q => h.run pins s σ H Q I (i σ H Q q)⟩
theorem PSs.imp {X : Cx} {e : List Stmt} {t t' : TS} (h : PSs X e t) (i : ∀ σ H Q, t' Q σ H → t Q σ H) : PSs X e t' := ⟨fun pins s σ H Q I q => h.run pins s σ H Q I (i σ H Q q)⟩

section
variable {X : Cx} {cv : Nat → Value} {wx : WX} {a b c : Expr} {fa fb fc : Env → M D} {pos : Pos}
abbrev EvE (X : Cx) (cv : Nat → Value) (wx : WX) (e : Expr) (f : Env → M D) : Prop := PE X e (tE X.K cv wx f)
abbrev EvT (X : Cx) (cv : Nat → Value) (wx : WX) (e : Expr) (f : Env → M Bool) : Prop := PT X e (tT X.K cv wx f)
abbrev EvA (X : Cx) (cv : Nat → Value) (wx : WX) (es : List Expr) (f : Env → M (List D)) : Prop := PA X es (tA X.K cv wx f)
abbrev EvN (X : Cx) (cv : Nat → Value) (wx : WX) (e : Expr) (f : Env → M (List D)) : Prop := PE X e (tN X.K cv wx f)

theorem e_var {i : Nat} {x : Str} (hN : X.N[i]? = some x) (hv : Vis X.env.scope x) (hd : (x == ("__debug__" : Str)) = false) (hcd : (x == ("__classdict__" : Str)) = false) : EvE X cv wx (.Name x pos) fun ρ => ofO (slot ρ i) := by
  refine PE.imp (pe_var hN hv hd hcd) fun σ H Q ⟨ρ, s, W0, W, e, at_, h⟩ => ?_
  obtain ⟨d, e1, h⟩ := h.ofO
  unfold Ev.slot at e1
  split at e1
  · rename_i d' e2
    cases e1
    obtain ⟨v, ev, rv⟩ := at_.fr.slot i d e2
    subst e
    exact ⟨v, ev, h W Nxt.refl at_.st v rv⟩
  · cases e1
theorem e_const {e : Expr} {v : V} {d : D} (h : PE X e (tC v)) (r : ∀ W, Rp X.K W d v) : EvE X cv wx e fun _ => pur d := by
  refine PE.imp h fun σ H Q ⟨ρ, s, W0, W, e, at_, h⟩ => ?_
  subst e
  exact h W Nxt.refl at_.st v (r W)

theorem Nxt.upd1 {K : PySem.W.Frag} {W : Wd} {s : Store} (st : StOk K W s) {p : Addr} {o : HO} (hp : W.H p = none) : Nxt W (W.new p o) ∧ StOk K (W.new p o) s := ⟨Nxt.new st hp, st.new hp⟩
/-- a new list, frozen at once -/
theorem Rp.newL {K : PySem.W.Frag} {W : Wd} {s : Store} (st : StOk K W s) {p : Addr} {ds : List D} {vs : List V} (hp : W.H p = none) (hz : ds.length ≤ lim) (r : RpL K W ds vs) : Rp K (W.new p (.lst vs)) (.lst ds) (.ref p) :=
  .lst (.inl upd_same) (st.notF hp) hz ((Nxt.new st hp).rpL st.inF r)
theorem Rp.newT {K : PySem.W.Frag} {W : Wd} {s : Store} (st : StOk K W s) {p : Addr} {o : Obj} {ds : List D} {vs : List V} (ho : o.dict = none) (hp : W.H p = none) (hz : ds.length ≤ lim) (r : RpL K W ds vs) : Rp K (W.new p (.frz o (.tup vs))) (.tup ds) (.ref p) :=
  .tup (.inl ⟨o, ho, upd_same⟩) hz ((Nxt.new st hp).rpL st.inF r)
theorem e_frz {e : Expr} {f : Env → M (List D)} (h : EvN X cv wx e f) : EvE X cv wx e fun ρ => bnd (f ρ) fun ds => pur (.lst ds) := by
  refine PE.imp h fun σ H Q ⟨ρ, s, W0, W, e, at_, h⟩ => ⟨ρ, s, W0, W, e, at_, ?_⟩
  refine h.bnd.mono fun ds W1 s1 n1 st1 h1 vs p r z hp => ?_
  exact h1 _ (Nxt.new st1 hp) (st1.new hp) _ (Rp.newL st1 hp z r)

/-- an operation by value keeps what it says -/
def BopR (X : Cx) (o : Bo) (r : R2) : Prop := ∀ (W : Wd) (s : Store) (x y d : D) (u v : V) (Q : VK), StOk X.K W s → bop o x y = some d → Rp X.K W x u → Rp X.K W y v →
  (∀ W', Nxt W W' → StOk X.K W' s → ∀ z, Rp X.K W' d z → Q z W'.H) → r u v W.H Q
theorem e_two {e : Expr} {o : Bo} {r : R2} (hr : BopR X o r) (he : PE X e (tOp r (tE X.K cv wx fa) (tE X.K cv wx fb))) : EvE X cv wx e fun ρ => bnd (fa ρ) fun x => bnd (fb ρ) fun y => ofO (bop o x y) := by
  refine PE.imp he fun σ H Q ⟨ρ, s, W0, W, e, at_, h⟩ => ?_
  refine ⟨ρ, s, W0, W, e, at_, h.bnd.mono fun x W1 s1 n1 st1 h1 u ru => ?_⟩
  refine ⟨ρ, s1, W0, W1, rfl, at_.next n1 st1, h1.bnd.mono fun y W2 s2 n2 st2 h2 v rv => ?_⟩
  obtain ⟨d, e2, h3⟩ := h2.ofO
  exact hr W2 s2 x y d u v Q st2 e2 (n2.rp st1.inF ru) rv fun W' n' st' z rz => h3 W' n' st' z rz
theorem e_bi {o : Bo} {op : Operator} {r : R2} (ho : OpR X (binaryOp op) r) (hr : BopR X o r) (ha : EvE X cv wx a fa) (hb : EvE X cv wx b fb) : EvE X cv wx (.BinOp a op b pos) fun ρ => bnd (fa ρ) fun x => bnd (fb ρ) fun y => ofO (bop o x y) :=
  e_two hr (pe_op ho ha hb)
theorem e_cmp {o : Bo} {op : CmpOp} {r : R2} (ho : OpR X (compareOp op) r) (hm : behindInMarks op b = false) (hr : BopR X o r) (ha : EvE X cv wx a fa) (hb : EvE X cv wx b fb) : EvE X cv wx (.Compare a [op] [b] pos) fun ρ => bnd (fa ρ) fun x => bnd (fb ρ) fun y => ofO (bop o x y) :=
  e_two hr (pe_cmpR ho ha hb hm)
theorem asBl_inv {K : PySem.W.Frag} {σ : L2.St} {W : Wd} {s : Store} {d : D} {Q : Bool → Wd → Store → Prop} (h : Aft K cv W σ wx (asBl d s) Q) : ∃ b, d = .bl b ∧ ∀ W', Nxt W W' → StOk K W' s → Q b W' s := by
  cases d with
  | bl b => exact ⟨b, rfl, h⟩
  | _ => exact False.elim h
theorem t_cmp {o : Bo} {op : CmpOp} {r : R2} (ho : OpR X (compareOp op) r) (hm : behindInMarks op b = false) (hr : BopR X o r) (ha : EvE X cv wx a fa) (hb : EvE X cv wx b fb) :
    EvT X cv wx (.Compare a [op] [b] pos) fun ρ => bnd (bnd (fa ρ) fun x => bnd (fb ρ) fun y => ofO (bop o x y)) asBl := by
  refine PT.imp (pt_cmpR ho ha hb hm) fun σ H Q ⟨ρ, s, W0, W, e, at_, h⟩ => ?_
  simp only [bnd_assoc] at h
  refine ⟨ρ, s, W0, W, e, at_, h.bnd.mono fun x W1 s1 n1 st1 h1 u ru => ?_⟩
  refine ⟨ρ, s1, W0, W1, rfl, at_.next n1 st1, h1.bnd.mono fun y W2 s2 n2 st2 h2 v rv => ?_⟩
  obtain ⟨d, e2, h3⟩ := h2.bnd.ofO
  refine hr W2 s2 x y d u v _ st2 e2 (n2.rp st1.inF ru) rv fun W' n' st' z rz => ?_
  obtain ⟨k, rfl, h4⟩ := asBl_inv (h3 W' n' st')
  cases rz
  exact ⟨k, rfl, h4 W' Nxt.refl st'⟩
/-- a value that is a bool, as a test -/
theorem t_val {f : Env → M D} (h : EvE X cv wx a f) (he : ∀ whole, isTrue a X.env whole = (do let v ← whole; standAt a.pos; holding [v] (truthy v))) : EvT X cv wx a fun ρ => bnd (f ρ) asBl := by
  refine PT.imp (pt_val h he) fun σ H Q ⟨ρ, s, W0, W, e, at_, h⟩ => ?_
  refine ⟨ρ, s, W0, W, e, at_, h.bnd.mono fun x W1 s1 n1 st1 h1 u ru => ?_⟩
  obtain ⟨k, rfl, h4⟩ := asBl_inv h1
  cases ru
  exact ⟨k, rfl, h4 W1 Nxt.refl st1⟩
end
end Ev

namespace Ev
open PySem PySem.Spec PyProof.Rows L2
open SX (S S_cat S_len S_inj S_tl)

section
variable {X : Cx}
theorem rdM {pins : List (Addr × Obj)} {σ : L2.St} {H : Hp} {s : Shared} {l : Addr} {xs : List V} (I : Inv X pins σ H s) (h : Rd H l (.lst xs)) :
    xs.length ≤ sizeLine ∧ ∃ (its : List Value) (n : Nat), Vals xs its ∧ xs.length = its.length ∧ s.heap.get? l = some { cls := .type "list", data := .seq its.toArray n } := by
  obtain ⟨z, its, n, r, e⟩ := h.ok I.hok
  exact ⟨z, its, n, r, r.length, e⟩
def rCatS : R2 := fun x y H Q => ∃ l b xs zs, x = .ref l ∧ y = .ref b ∧ Rd H l (.lst xs) ∧ Rd H b (.lst zs) ∧ xs.length + zs.length ≤ sizeLine ∧ ∀ p, H p = none → Q (.ref p) (upd H p (.lst (xs ++ zs)))
theorem op_catS : OpR X (binaryOp .Add) rCatS := by
  intro pins s σ H x y v u Q I rx ry h
  obtain ⟨l, b, xs, zs, rfl, rfl, hH, hB, hz, q⟩ := h
  cases rx
  cases ry
  obtain ⟨z, its, n, r, hl, e⟩ := rdM I hH
  obtain ⟨z2, its2, n2, r2, hl2, e2⟩ := rdM I hB
  refine PySem.P.add_list e e2 ?_ (by rw [List.size_toArray, List.size_toArray]; omega)
  have ea : its.toArray ++ its2.toArray = (its ++ its2).toArray := by simp
  rw [ea]
  exact ⟨.ref _, _, I.lnew (t' := s.toks) (r.append r2) (by rw [List.length_append]; omega), rfl, q _ I.fresh⟩
def rRepS : R2 := fun x y H Q => ∃ l k xs, x = .ref l ∧ y = .int k ∧ Rd H l (.lst xs) ∧ -(2 ^ 63) ≤ k ∧ k < 2 ^ 63 ∧ xs.length * k.toNat ≤ sizeLine ∧
  ∀ p, H p = none → Q (.ref p) (upd H p (.lst (List.replicate k.toNat xs).flatten))
theorem op_repS : OpR X (binaryOp .Mult) rRepS := by
  intro pins s σ H x y v u Q I rx ry h
  obtain ⟨l, k, xs, rfl, rfl, hH, h1, h2, hz, q⟩ := h
  cases rx
  obtain ⟨t, rfl⟩ := ry
  obtain ⟨z, its, n, r, hl, e⟩ := rdM I hH
  have hlen : its.toArray.size * k.toNat ≤ sizeLine := by rw [List.size_toArray, ← hl]; exact hz
  have hcap : ¬ its.toArray.size * k.toNat > (2 ^ 63 - 1) / 8 := by
    have : (sizeLine : Nat) ≤ (2 ^ 63 - 1) / 8 := by decide
    omega
  have hfit : ¬ (!Builtin.List.listFitsIndex k) = true := by
    rw [fitsIndex_both h1 h2]
    exact Bool.false_ne_true
  have hlong : ¬ Builtin.List.listTooLong (its.toArray.size * k.toNat) = true := by
    rw [notLongL hlen]
    exact Bool.false_ne_true
  have hnew : List.foldl (fun x1 x2 => x1 ++ x2) #[] (List.replicate (if its.toArray.isEmpty = true then 0 else k.toNat) its.toArray) = (List.replicate k.toNat its).flatten.toArray := by
    have f0 : ∀ m : Nat, List.foldl (fun x1 x2 => x1 ++ x2) #[] (List.replicate m its.toArray) = (List.replicate m its).flatten.toArray := fun m => by
      have := foldl_rep its m []
      rw [List.nil_append] at this
      exact this
    rw [f0]
    cases its with
    | nil => simp
    | cons a r' => rw [if_neg (by simp)]
  refine wpAny_binaryOp_repeat_ref (T := "list") (U := "int") (by decide) ⟨_, e, rfl⟩ (fun s' => typeIs_int s' k t) noFill_list_mul F.fills_int_mul F.slot_int_rmul repeat_list F.slot_int_index.lookup
    (call_meets F.slot_int_rmul (typeIs_int s k t) F.entry_int_rmul (F.args_int_rmul_2 _ _) (int___rmul___int_list k t l its.toArray n)
      ⟨e, rfl, ⟨_, e, rfl⟩, call_meets F.slot_list_mul ⟨_, e, rfl⟩ F.entry_list_mul (F.args_list_mul_2 _ _) (AutoListH.list___mul___list_int_3 l its.toArray n k t hfit hcap hlong) ⟨e, ?_⟩⟩)
  rw [hnew]
  exact ⟨.ref _, _, I.lnew (t' := s.toks) (r.rep k.toNat) (by rw [PyProof.Rows.lm_len_rep_flat, Nat.mul_comm]; exact hz), rfl, q _ I.fresh⟩
end

mutual
def D.py : D → PyData
  | .non => .none
  | .bl b => .bool b
  | .int i => .int i
  | .str s => .str (S s)
  | .tup l => .tuple (D.pyL l)
  | .lst l => .list (D.pyL l)
  | .own l => .list (D.pyL l)
  | .ref _ => .none
  | .pr _ _ => .none
def D.pyL : List D → List PyData
  | [] => []
  | d :: ds => D.py d :: D.pyL ds
end
theorem S_eq (s t : List Nat) : (S s == S t) = (s == t) := SX.S_beq s t
mutual
theorem eqv_py : ∀ (a b : D) (n m : Nat), a.fit n = true → b.fit m = true → PyData.eqv a.py b.py = a.eq b
  | .non, b, n, m, _, hb => by cases b <;> simp [D.py, D.eq, PyData.eqv, D.fit] at * 
  | .bl x, b, n, m, _, hb => by cases b <;> simp [D.py, D.eq, PyData.eqv, D.fit] at *
  | .int i, b, n, m, _, hb => by cases b <;> simp [D.py, D.eq, PyData.eqv, D.fit] at *
  | .str s, b, n, m, _, hb => by cases b <;> simp [D.py, D.eq, PyData.eqv, D.fit, S_eq] at *
  | .tup l, b, n, m, ha, hb => by
    cases n with
    | zero => simp [D.fit] at ha
    | succ n =>
      cases b with
      | tup r =>
        cases m with
        | zero => simp [D.fit] at hb
        | succ m =>
          simp only [D.fit] at ha hb
          simp only [D.py, D.eq, PyData.eqv]
          exact eqv_pyL l r n m ha hb
      | _ => simp [D.py, D.eq, PyData.eqv, D.fit] at *
  | .lst l, b, n, m, ha, hb => by
    cases n with
    | zero => simp [D.fit] at ha
    | succ n =>
      cases b with
      | lst r =>
        cases m with
        | zero => simp [D.fit] at hb
        | succ m =>
          simp only [D.fit] at ha hb
          simp only [D.py, D.eq, PyData.eqv]
          exact eqv_pyL l r n m ha hb
      | own r =>
        cases m with
        | zero => simp [D.fit] at hb
        | succ m =>
          simp only [D.fit] at ha hb
          simp only [D.py, D.eq, PyData.eqv]
          exact eqv_pyL l r n m ha hb
      | _ => simp [D.py, D.eq, PyData.eqv, D.fit] at *
  | .own l, b, n, m, ha, hb => by
    cases n with
    | zero => simp [D.fit] at ha
    | succ n =>
      cases b with
      | lst r =>
        cases m with
        | zero => simp [D.fit] at hb
        | succ m =>
          simp only [D.fit] at ha hb
          simp only [D.py, D.eq, PyData.eqv]
          exact eqv_pyL l r n m ha hb
      | own r =>
        cases m with
        | zero => simp [D.fit] at hb
        | succ m =>
          simp only [D.fit] at ha hb
          simp only [D.py, D.eq, PyData.eqv]
          exact eqv_pyL l r n m ha hb
      | _ => simp [D.py, D.eq, PyData.eqv, D.fit] at *
  | .ref _, b, n, m, ha, hb => by simp [D.fit] at ha
theorem eqv_pyL : ∀ (l r : List D) (n m : Nat), D.fitL n l = true → D.fitL m r = true → PyData.eqvAll (D.pyL l) (D.pyL r) = D.eqL l r
  | [], [], _, _, _, _ => by simp [D.pyL, D.eqL, PyData.eqvAll]
  | [], _ :: _, _, _, _, _ => by simp [D.pyL, D.eqL, PyData.eqvAll]
  | _ :: _, [], _, _, _, _ => by simp [D.pyL, D.eqL, PyData.eqvAll]
  | x :: xs, y :: ys, n, m, ha, hb => by
    simp only [D.fitL, Bool.and_eq_true] at ha hb
    simp only [D.pyL, D.eqL, PyData.eqvAll]
    rw [eqv_py x y n m ha.1 hb.1, eqv_pyL xs ys n m ha.2 hb.2]
end
mutual
theorem depth_py : ∀ (d : D) (n : Nat), d.fit n = true → d.py.depth ≤ n
  | .non, n, _ => by simp [D.py, PyData.depth]
  | .bl _, n, _ => by simp [D.py, PyData.depth]
  | .int _, n, _ => by simp [D.py, PyData.depth]
  | .str _, n, _ => by simp [D.py, PyData.depth]
  | .tup l, 0, h => by simp [D.fit] at h
  | .tup l, n + 1, h => by
    simp only [D.fit] at h
    simp only [D.py, PyData.depth]
    have := depth_pyL l n h
    omega
  | .lst l, 0, h => by simp [D.fit] at h
  | .lst l, n + 1, h => by
    simp only [D.fit] at h
    simp only [D.py, PyData.depth]
    have := depth_pyL l n h
    omega
  | .own l, 0, h => by simp [D.fit] at h
  | .own l, n + 1, h => by
    simp only [D.fit] at h
    simp only [D.py, PyData.depth]
    have := depth_pyL l n h
    omega
  | .ref _, n, h => by simp [D.fit] at h
theorem depth_pyL : ∀ (l : List D) (n : Nat), D.fitL n l = true → PyData.depthAll (D.pyL l) ≤ n
  | [], n, _ => by simp [D.pyL, PyData.depthAll]
  | d :: ds, n, h => by
    simp only [D.fitL, Bool.and_eq_true] at h
    simp only [D.pyL, PyData.depthAll]
    have := depth_py d n h.1
    have := depth_pyL ds n h.2
    omega
end
section
variable {K : PySem.W.Frag} {W : Wd}
theorem Rd.sq {a : Addr} {xs : List V} (h : Rd W.H a (.lst xs)) : SqL K W.H a xs := .inl h
mutual
theorem Rp.dp : ∀ {d : D} {v : V}, Rp K W d v → ∀ n, d.fit n = true → Dp K W.H v d.py ∧ d.py.canLay0 = true
  | _, _, .non, _, _ => ⟨.non, by simp [D.py, PyData.canLay0]⟩
  | _, _, .bl b, _, _ => ⟨.bl b, by simp [D.py, PyData.canLay0]⟩
  | _, _, .int i, _, _ => ⟨.int i, by simp [D.py, PyData.canLay0]⟩
  | _, _, .str s h _, _, _ => ⟨.str _, by
      simp only [D.py, PyData.canLay0]
      unfold PyData.strOk
      simpa using h⟩
  | _, _, .tup h _ r, 0, f => by simp [D.fit] at f
  | _, _, .tup h _ r, n + 1, f => by
    simp only [D.fit] at f
    obtain ⟨a, b⟩ := RpL.dp r n f
    exact ⟨by simp only [D.py]; exact .tup h.t a, by simp only [D.py, PyData.canLay0]; exact b⟩
  | _, _, .lst h _ _ r, 0, f => by simp [D.fit] at f
  | _, _, .lst h _ _ r, n + 1, f => by
    simp only [D.fit] at f
    obtain ⟨a, b⟩ := RpL.dp r n f
    exact ⟨by simp only [D.py]; exact .lst (.inl h) a, by simp only [D.py, PyData.canLay0]; exact b⟩
  | _, _, .own h _ _ _ r, 0, f => by simp [D.fit] at f
  | _, _, .own h _ _ _ r, n + 1, f => by
    simp only [D.fit] at f
    obtain ⟨a, b⟩ := RpL.dp r n f
    exact ⟨by simp only [D.py]; exact .lst (.inl (.inl h)) a, by simp only [D.py, PyData.canLay0]; exact b⟩
  | _, _, .ref _, _, f => by simp [D.fit] at f
  | _, _, .pr _ _ _ _ _, _, f => by simp [D.fit] at f
theorem RpL.dp : ∀ {ds : List D} {vs : List V}, RpL K W ds vs → ∀ n, D.fitL n ds = true → DpAll K W.H vs (D.pyL ds) ∧ PyData.canLayAll0 (D.pyL ds) = true
  | _, _, .nil, _, _ => ⟨.nil, by simp [D.pyL, PyData.canLayAll0]⟩
  | _, _, .cons _ h r, n, f => by
    simp only [D.fitL, Bool.and_eq_true] at f
    obtain ⟨a, b⟩ := Rp.dp h n f.1
    obtain ⟨c, d⟩ := RpL.dp r n f.2
    exact ⟨.cons a c, by simp only [D.pyL, PyData.canLayAll0, b, d]; rfl⟩
end
theorem shaped_of {d : D} {v : V} (h : Rp K W d v) (f : d.fit deep = true) : SeqAt.shaped d.py = true := by
  unfold SeqAt.shaped
  rw [(h.dp _ f).2]
  have : d.py.depth ≤ 64 := Nat.le_trans (depth_py d deep f) (by decide)
  simp [this]
end
end Ev

namespace Ev
open PySem PySem.Spec PyProof.Rows L2
open SX (S S_cat S_len S_inj S_tl)
theorem all_append {s t : List Nat} (h : s.all (· < 0x110000) = true) (g : t.all (· < 0x110000) = true) : (s ++ t).all (· < 0x110000) = true := by rw [List.all_append, h, g]; rfl
section
variable {X : Cx}
abbrev rAdd : R2 := fun x y H Q => rI0 (fun i j => .int (i + j)) x y H Q ∨ (∃ i j, x = .str i ∧ y = .str j ∧ i.length + j.length ≤ sizeLine ∧ Q (.str (i ++ j)) H) ∨ rCatX X.K x y H Q ∨ rCatS x y H Q
theorem op_addD : OpR X (binaryOp .Add) (rAdd (X := X)) := op_add.or (op_add_str.or (op_catX.or op_catS))
theorem lst_of {K : PySem.W.Frag} {W : Wd} {d : D} {v : V} {l : List D} (e : d.lst? = some l) (r : Rp K W d v) : ∃ a xs, v = .ref a ∧ Rd W.H a (.lst xs) ∧ l.length ≤ lim ∧ RpL K W l xs := by
  cases d with
  | lst l' => cases e; cases r with | lst h nf z r => exact ⟨_, _, rfl, h, z, r⟩
  | own l' => cases e; cases r with | own h f na z r => exact ⟨_, _, rfl, .inl h, z, r⟩
  | _ => cases e
theorem seq_of {K : PySem.W.Frag} {W : Wd} {d : D} {v : V} {l : List D} (e : d.seq? = some l) (r : Rp K W d v) : ∃ a xs, v = .ref a ∧ (SqL K W.H a xs ∨ SqT K W.H a xs) ∧ l.length ≤ lim ∧ RpL K W l xs := by
  cases d with
  | lst l' => cases e; cases r with | lst h nf z r => exact ⟨_, _, rfl, .inl (.inl h), z, r⟩
  | own l' => cases e; cases r with | own h f na z r => exact ⟨_, _, rfl, .inl (.inl (.inl h)), z, r⟩
  | tup l' => cases e; cases r with | tup h z r => exact ⟨_, _, rfl, .inr h.t, z, r⟩
  | _ => cases e
/-- a new list as the answer -/
theorem newL {K : PySem.W.Frag} {W : Wd} {s : Store} {ds : List D} {vs : List V} {Q : VK} (st : StOk K W s) (hz : ds.length ≤ lim) (r : RpL K W ds vs) (q : ∀ W', Nxt W W' → StOk K W' s → ∀ z, Rp K W' (.lst ds) z → Q z W'.H) :
    ∀ p, W.H p = none → Q (.ref p) (upd W.H p (.lst vs)) := fun p hp => q _ (Nxt.new st hp) (st.new hp) _ (Rp.newL st hp hz r)
theorem newT {K : PySem.W.Frag} {W : Wd} {s : Store} {ds : List D} {vs : List V} {Q : VK} (st : StOk K W s) (hz : ds.length ≤ lim) (r : RpL K W ds vs) (q : ∀ W', Nxt W W' → StOk K W' s → ∀ z, Rp K W' (.tup ds) z → Q z W'.H) :
    ∀ p o, o.dict = none → W.H p = none → Q (.ref p) (upd W.H p (.frz o (.tup vs))) := fun p o ho hp => q _ (Nxt.new st hp) (st.new hp) _ (Rp.newT st ho hp hz r)
theorem R_add : BopR X .add (rAdd (X := X)) := by
  intro W s x y d u v Q st e rx ry q
  have lists : ∀ l m, x.lst? = some l → y.lst? = some m → (if l.length + m.length ≤ lim then some (D.lst (l ++ m)) else none) = some d → rAdd (X := X) u v W.H Q := by
    intro l m e1 e2 e3
    by_cases hz : l.length + m.length ≤ lim
    · rw [if_pos hz] at e3; cases e3
      obtain ⟨a, xs, rfl, h1, z1, r1⟩ := lst_of e1 rx
      obtain ⟨b, ys, rfl, h2, z2, r2⟩ := lst_of e2 ry
      refine .inr (.inr (.inr ⟨a, b, xs, ys, rfl, rfl, h1, h2, ?_, newL st (by rw [List.length_append]; exact hz) (r1.append r2) q⟩))
      rw [← lim_eq, ← r1.length, ← r2.length]; exact hz
    · rw [if_neg hz] at e3; cases e3
  have fall : (x.lst?.bind fun l => y.lst?.bind fun m => if l.length + m.length ≤ lim then some (D.lst (l ++ m)) else none) = some d → rAdd (X := X) u v W.H Q := by
    intro e
    cases e1 : x.lst? with
    | none => rw [e1] at e; cases e
    | some l =>
      cases e2 : y.lst? with
      | none => rw [e1, e2] at e; cases e
      | some m => rw [e1, e2] at e; exact lists l m e1 e2 e
  cases x with
  | int i =>
    cases y with
    | int j =>
      cases e; cases rx; cases ry
      exact .inl ⟨i, j, rfl, rfl, q W Nxt.refl st _ (.int _)⟩
    | _ => exact fall e
  | str i =>
    cases y with
    | str j =>
      have e' : (if i.length + j.length ≤ lim then some (D.str (i ++ j)) else none) = some d := e
      by_cases hz : i.length + j.length ≤ lim
      · rw [if_pos hz] at e'; cases e'
        cases rx with | str _ h1 z1 =>
        cases ry with | str _ h2 z2 =>
        refine .inr (.inl ⟨S i, S j, rfl, rfl, ?_, ?_⟩)
        · rw [S_len, S_len, ← lim_eq]; exact hz
        · rw [S_cat]
          exact q W Nxt.refl st _ (.str _ (all_append h1 h2) (by rw [List.length_append]; exact hz))
      · rw [if_neg hz] at e'; cases e'
    | _ => exact fall e
  | tup l =>
    cases y with
    | tup m =>
      have e' : (if l.length + m.length ≤ lim then some (D.tup (l ++ m)) else none) = some d := e
      by_cases hz : l.length + m.length ≤ lim
      · rw [if_pos hz] at e'; cases e'
        cases rx with | tup h1 z1 r1 =>
        cases ry with | tup h2 z2 r2 =>
        rename_i a xs b ys
        refine .inr (.inr (.inl ⟨a, b, xs, ys, rfl, rfl, h1, h2, ?_, ?_, ?_, ?_⟩))
        · rw [← lim_eq, ← r1.length, ← r2.length]; exact hz
        · intro ex
          subst ex
          have el : l = [] := List.eq_nil_of_length_eq_zero (by rw [r1.length]; rfl)
          subst el
          exact q W Nxt.refl st _ (.tup h2 z2 r2)
        · intro _ ey
          subst ey
          have em : m = [] := List.eq_nil_of_length_eq_zero (by rw [r2.length]; rfl)
          subst em
          rw [List.append_nil] at q
          exact q W Nxt.refl st _ (.tup h1 z1 r1)
        · intro _ _
          exact newT st (by rw [List.length_append]; exact hz) (r1.append r2) q
      · rw [if_neg hz] at e'; cases e'
    | _ => exact fall e
  | _ => cases y <;> exact fall e
theorem R_sub : BopR X .sub (rI0 fun i j => .int (i - j)) := by
  intro W s x y d u v Q st e rx ry q
  cases x <;> cases y <;> first | (cases e; done) | (cases e; cases rx; cases ry; exact ⟨_, _, rfl, rfl, q W Nxt.refl st _ (.int _)⟩)
abbrev rMulD : R2 := fun x y H Q => rI CMul (fun i j => .int (i * j)) x y H Q ∨ rRepS x y H Q
theorem op_mulD : OpR X (binaryOp .Mult) rMulD := op_mul.or op_repS
theorem length_rep {α : Type} (l : List α) : ∀ k : Nat, (List.replicate k l).flatten.length = k * l.length
  | 0 => by simp
  | k + 1 => by rw [List.replicate_succ, List.flatten_cons, List.length_append, length_rep l k, Nat.succ_mul, Nat.add_comm]
theorem RpL.rep {K : PySem.W.Frag} {W : Wd} {ds : List D} {vs : List V} (r : RpL K W ds vs) : ∀ k : Nat, RpL K W (List.replicate k ds).flatten (List.replicate k vs).flatten
  | 0 => .nil
  | k + 1 => by
    rw [List.replicate_succ, List.flatten_cons, List.replicate_succ, List.flatten_cons]
    exact r.append (RpL.rep r k)
theorem R_mul : BopR X .mul rMulD := by
  intro W s x y d u v Q st e rx ry q
  have fall : ∀ k : Int, y = .int k → (x.lst?.bind fun l => if -(2 ^ 63) ≤ k ∧ k < 2 ^ 63 ∧ l.length * k.toNat ≤ lim then some (D.lst (List.replicate k.toNat l).flatten) else none) = some d → rMulD u v W.H Q := by
    intro k ey e0
    clear e
    subst ey
    cases ry
    cases e1 : x.lst? with
    | none => rw [e1] at e0; cases e0
    | some l =>
      rw [e1] at e0
      have e' : (if -(2 ^ 63) ≤ k ∧ k < 2 ^ 63 ∧ l.length * k.toNat ≤ lim then some (D.lst (List.replicate k.toNat l).flatten) else none) = some d := e0
      by_cases hz : -(2 ^ 63) ≤ k ∧ k < 2 ^ 63 ∧ l.length * k.toNat ≤ lim
      · rw [if_pos hz] at e'; cases e'
        obtain ⟨a, xs, rfl, h1, z1, r1⟩ := lst_of e1 rx
        refine .inr ⟨a, k, xs, rfl, rfl, h1, hz.1, hz.2.1, ?_, newL st ?_ (r1.rep k.toNat) q⟩
        · rw [← lim_eq, ← r1.length]; exact hz.2.2
        · rw [length_rep, Nat.mul_comm]; exact hz.2.2
      · rw [if_neg hz] at e'; cases e'
  cases y with
  | int k =>
    cases x with
    | int i =>
      have e' : (if (-big < i ∧ i < big) ∨ (-big < k ∧ k < big) then some (D.int (i * k)) else none) = some d := e
      by_cases hz : (-big < i ∧ i < big) ∨ (-big < k ∧ k < big)
      · rw [if_pos hz] at e'; cases e'; cases rx; cases ry
        exact .inl ⟨_, _, rfl, rfl, hz, q W Nxt.refl st _ (.int _)⟩
      · rw [if_neg hz] at e'; cases e'
    | _ => exact fall k rfl e
  | _ => cases x <;> cases e
theorem R_mod : BopR X .mod (rI (fun _ j => 0 < j) fun i j => .int (i % j)) := by
  intro W s x y d u v Q st e rx ry q
  cases x with
  | int i =>
    cases y with
    | int j =>
      have e' : (if 0 < j then some (D.int (i % j)) else none) = some d := e
      by_cases hz : 0 < j
      · rw [if_pos hz] at e'; cases e'; cases rx; cases ry
        exact ⟨_, _, rfl, rfl, hz, q W Nxt.refl st _ (.int _)⟩
      · rw [if_neg hz] at e'; cases e'
    | _ => cases e
  | _ => cases y <;> cases e
theorem R_fdiv : BopR X .fdiv (rI CDiv fun i j => .int (i / j)) := by
  intro W s x y d u v Q st e rx ry q
  cases x with
  | int i =>
    cases y with
    | int j =>
      have e' : (if 0 < j ∧ j < 1073741824 then some (D.int (i / j)) else none) = some d := e
      by_cases hz : 0 < j ∧ j < 1073741824
      · rw [if_pos hz] at e'; cases e'; cases rx; cases ry
        exact ⟨_, _, rfl, rfl, hz, q W Nxt.refl st _ (.int _)⟩
      · rw [if_neg hz] at e'; cases e'
    | _ => cases e
  | _ => cases y <;> cases e
theorem R_pow : BopR X .pow (rI CPow fun i j => .int (i ^ j.toNat)) := by
  intro W s x y d u v Q st e rx ry q
  cases x with
  | int i =>
    cases y with
    | int j =>
      have e' : (if 0 ≤ j ∧ j ≤ 1000000 ∧ i.natAbs < 2 ^ 64 then some (D.int (i ^ j.toNat)) else none) = some d := e
      by_cases hz : 0 ≤ j ∧ j ≤ 1000000 ∧ i.natAbs < 2 ^ 64
      · rw [if_pos hz] at e'; cases e'; cases rx; cases ry
        exact ⟨_, _, rfl, rfl, hz, q W Nxt.refl st _ (.int _)⟩
      · rw [if_neg hz] at e'; cases e'
    | _ => cases e
  | _ => cases y <;> cases e
theorem R_eq : BopR X .eq (rEqD X.K) := by
  intro W s x y d u v Q st e rx ry q
  have e' : (eqO x y).map D.bl = some d := by cases x <;> cases y <;> exact e
  unfold eqO at e'
  by_cases hf : (x.fit deep && y.fit deep) = true
  · rw [if_pos hf] at e'
    cases e'
    rw [Bool.and_eq_true] at hf
    refine ⟨x.py, y.py, (rx.dp _ hf.1).1, (ry.dp _ hf.2).1, shaped_of rx hf.1, shaped_of ry hf.2, ?_⟩
    rw [eqv_py x y _ _ hf.1 hf.2]
    exact q W Nxt.refl st _ (.bl _)
  · rw [if_neg hf] at e'; cases e'
theorem R_ne : BopR X .ne (rNeD X.K) := by
  intro W s x y d u v Q st e rx ry q
  have e' : (eqO x y).map (fun k => D.bl (!k)) = some d := by cases x <;> cases y <;> exact e
  unfold eqO at e'
  by_cases hf : (x.fit deep && y.fit deep) = true
  · rw [if_pos hf] at e'
    cases e'
    rw [Bool.and_eq_true] at hf
    refine ⟨x.py, y.py, (rx.dp _ hf.1).1, (ry.dp _ hf.2).1, shaped_of rx hf.1, shaped_of ry hf.2, ?_⟩
    rw [eqv_py x y _ _ hf.1 hf.2]
    exact q W Nxt.refl st _ (.bl _)
  · rw [if_neg hf] at e'; cases e'
abbrev rLtD : R2 := fun x y H Q => rI0 (fun i j => .bl (decide (i < j))) x y H Q ∨ ∃ i j, x = .str i ∧ y = .str j ∧ Q (.bl (decide (i.cps.toList < j.cps.toList))) H
abbrev rLeD : R2 := fun x y H Q => rI0 (fun i j => .bl (decide (i ≤ j))) x y H Q ∨ ∃ i j, x = .str i ∧ y = .str j ∧ Q (.bl (!decide (j.cps.toList < i.cps.toList))) H
abbrev rGtD : R2 := fun x y H Q => rI0 (fun i j => .bl (decide (j < i))) x y H Q ∨ ∃ i j, x = .str i ∧ y = .str j ∧ Q (.bl (decide (j.cps.toList < i.cps.toList))) H
abbrev rGeD : R2 := fun x y H Q => rI0 (fun i j => .bl (decide (j ≤ i))) x y H Q ∨ ∃ i j, x = .str i ∧ y = .str j ∧ Q (.bl (!decide (i.cps.toList < j.cps.toList))) H
theorem op_ltD : OpR X (compareOp .Lt) rLtD := op_lt.or op_lt_str
theorem op_leD : OpR X (compareOp .LtE) rLeD := op_le.or op_le_str
theorem op_gtD : OpR X (compareOp .Gt) rGtD := op_gt.or op_gt_str
theorem op_geD : OpR X (compareOp .GtE) rGeD := op_ge.or op_ge_str
theorem le_not_lt (s t : List Nat) : decide (s ≤ t) = !decide (t < s) := by
  by_cases h : t < s
  · have : ¬ s ≤ t := fun q => (List.not_le.mpr h) q
    simp [h, this]
  · have : s ≤ t := List.not_lt.mp h
    simp [h, this]
theorem R_lt : BopR X .lt rLtD := by
  intro W s x y d u v Q st e rx ry q
  cases x <;> cases y <;> first | (cases e; done) | (cases e; cases rx; cases ry; first | exact .inl ⟨_, _, rfl, rfl, q W Nxt.refl st _ (.bl _)⟩ | exact .inr ⟨_, _, rfl, rfl, q W Nxt.refl st _ (.bl _)⟩)
theorem R_gt : BopR X .gt rGtD := by
  intro W s x y d u v Q st e rx ry q
  cases x <;> cases y <;> first | (cases e; done) | (cases e; cases rx; cases ry; first | exact .inl ⟨_, _, rfl, rfl, q W Nxt.refl st _ (.bl _)⟩ | exact .inr ⟨_, _, rfl, rfl, q W Nxt.refl st _ (.bl _)⟩)
theorem R_le : BopR X .le rLeD := by
  intro W s x y d u v Q st e rx ry q
  cases x <;> cases y <;> first | (cases e; done) | (cases e; cases rx; cases ry; first | exact .inl ⟨_, _, rfl, rfl, q W Nxt.refl st _ (.bl _)⟩ | exact .inr ⟨_, _, rfl, rfl, by rw [← le_not_lt]; exact q W Nxt.refl st _ (.bl _)⟩)
theorem R_ge : BopR X .ge rGeD := by
  intro W s x y d u v Q st e rx ry q
  cases x <;> cases y <;> first | (cases e; done) | (cases e; cases rx; cases ry; first | exact .inl ⟨_, _, rfl, rfl, q W Nxt.refl st _ (.bl _)⟩ | exact .inr ⟨_, _, rfl, rfl, by rw [← le_not_lt]; exact q W Nxt.refl st _ (.bl _)⟩)
def rInT (K : PySem.W.Frag) : R2 := fun x y H Q => ∃ d ds, Dp K H x d ∧ Dp K H y (.tuple ds) ∧ SeqAt.shaped d = true ∧ SeqAt.shaped (.tuple ds) = true ∧ Q (.bl (ds.any fun z => PyData.eqv z d)) H
def rNinT (K : PySem.W.Frag) : R2 := fun x y H Q => ∃ d ds, Dp K H x d ∧ Dp K H y (.tuple ds) ∧ SeqAt.shaped d = true ∧ SeqAt.shaped (.tuple ds) = true ∧ Q (.bl (!ds.any fun z => PyData.eqv z d)) H
theorem op_inT (hu : X.A.units + 65 < cLine) : OpR X (compareOp .In) (rInT X.K) := by
  intro pins s σ H x y v u Q I rx ry h
  obtain ⟨d, ds, hd, he, sd, se, q⟩ := h
  obtain ⟨as, r1⟩ := Dp.reads I d x v hd rx
  obtain ⟨bs, r2⟩ := Dp.reads I (.tuple ds) y u he ry
  refine SeqAt.in_tuple_reads r2 r1 (by have := SeqAt.canLay_of_shaped se; simpa [PyData.canLay0] using this) (SeqAt.canLay_of_shaped sd) ?_ ⟨.bl _, H, I, rfl, q⟩
  have h1 := SeqAt.depth_of_shaped sd
  have h2 : min (PyData.depthAll ds) d.depth ≤ d.depth := Nat.min_le_right _ _
  omega
theorem op_ninT (hu : X.A.units + 65 < cLine) : OpR X (compareOp .NotIn) (rNinT X.K) := by
  intro pins s σ H x y v u Q I rx ry h
  obtain ⟨d, ds, hd, he, sd, se, q⟩ := h
  obtain ⟨as, r1⟩ := Dp.reads I d x v hd rx
  obtain ⟨bs, r2⟩ := Dp.reads I (.tuple ds) y u he ry
  refine SeqAt.notIn_tuple_reads r2 r1 (by have := SeqAt.canLay_of_shaped se; simpa [PyData.canLay0] using this) (SeqAt.canLay_of_shaped sd) ?_ ⟨.bl _, H, I, rfl, q⟩
  have h1 := SeqAt.depth_of_shaped sd
  have h2 : min (PyData.depthAll ds) d.depth ≤ d.depth := Nat.min_le_right _ _
  omega
abbrev rInA : R2 := fun x y H Q => (∃ (c : Nat) (z : Str), x = .str ⟨#[c]⟩ ∧ y = .str z ∧ Q (.bl (decide (c ∈ z.cps.toList))) H) ∨ rInD X.K x y H Q ∨ rInT X.K x y H Q
abbrev rNinA : R2 := fun x y H Q => (∃ (c : Nat) (z : Str), x = .str ⟨#[c]⟩ ∧ y = .str z ∧ Q (.bl (!decide (c ∈ z.cps.toList))) H) ∨ rNotInD X.K x y H Q ∨ rNinT X.K x y H Q
theorem op_inA (hu : X.A.units + 65 < cLine) : OpR X (compareOp .In) (rInA (X := X)) := op_in_sign.or ((op_inD hu).or (op_inT hu))
theorem op_ninA (hu : X.A.units + 65 < cLine) : OpR X (compareOp .NotIn) (rNinA (X := X)) := op_notIn_sign.or ((op_notInD hu).or (op_ninT hu))
theorem any_py {n m : Nat} {x : D} (hx : x.fit n = true) : ∀ {l : List D}, D.fitL m l = true → (D.pyL l).any (fun z => PyData.eqv z x.py) = l.any fun z => z.eq x
  | [], _ => rfl
  | d :: ds, h => by
    simp only [D.fitL, Bool.and_eq_true] at h
    simp only [D.pyL, List.any_cons]
    rw [eqv_py d x m n h.1 hx, any_py hx h.2]
theorem in_core {W : Wd} {x y : D} {u v : V} {l : List D} (rx : Rp X.K W x u) (ry : Rp X.K W y v) (e : y.seq? = some l) (hf : (x.fit deep && D.fitL deep l) = true) {R : Bool → Prop}
    (q : R (l.any fun z => z.eq x)) : (∃ d ds, Dp X.K W.H u d ∧ Dp X.K W.H v (.list ds) ∧ SeqAt.shaped d = true ∧ SeqAt.shaped (.list ds) = true ∧ R (ds.any fun z => PyData.eqv z d)) ∨
      (∃ d ds, Dp X.K W.H u d ∧ Dp X.K W.H v (.tuple ds) ∧ SeqAt.shaped d = true ∧ SeqAt.shaped (.tuple ds) = true ∧ R (ds.any fun z => PyData.eqv z d)) := by
  rw [Bool.and_eq_true] at hf
  have sh : ∀ ds : List PyData, PyData.canLayAll0 ds = true → PyData.depthAll ds ≤ deep → SeqAt.shaped (.list ds) = true ∧ SeqAt.shaped (.tuple ds) = true := by
    intro ds h1 h2
    have h3 : PyData.depthAll ds + 1 ≤ 64 := Nat.le_trans (Nat.add_le_add_right h2 1) (by decide)
    constructor <;> simp [SeqAt.shaped, PyData.canLay0, PyData.depth, h1, h3]
  cases y with
  | lst l' =>
    cases e
    cases ry with | lst h nf z r =>
    obtain ⟨a, b⟩ := r.dp _ hf.2
    refine .inl ⟨x.py, D.pyL l, (rx.dp _ hf.1).1, .lst (.inl h) a, shaped_of rx hf.1, (sh _ b (depth_pyL _ _ hf.2)).1, ?_⟩
    rw [any_py hf.1 hf.2]; exact q
  | own l' =>
    cases e
    cases ry with | own h f na z r =>
    obtain ⟨a, b⟩ := r.dp _ hf.2
    refine .inl ⟨x.py, D.pyL l, (rx.dp _ hf.1).1, .lst (.inl (.inl h)) a, shaped_of rx hf.1, (sh _ b (depth_pyL _ _ hf.2)).1, ?_⟩
    rw [any_py hf.1 hf.2]; exact q
  | tup l' =>
    cases e
    cases ry with | tup h z r =>
    obtain ⟨a, b⟩ := r.dp _ hf.2
    refine .inr ⟨x.py, D.pyL l, (rx.dp _ hf.1).1, .tup h.t a, shaped_of rx hf.1, (sh _ b (depth_pyL _ _ hf.2)).2, ?_⟩
    rw [any_py hf.1 hf.2]; exact q
  | _ => cases e
theorem R_inn : BopR X .inn (rInA (X := X)) := by
  intro W s x y d u v Q st e rx ry q
  have e' : (inO x y).map D.bl = some d := by cases x <;> cases y <;> exact e
  have fall : ∀ l, y.seq? = some l → (if (x.fit deep && D.fitL deep l) = true then some (l.any fun z => z.eq x) else none).map D.bl = some d → rInA (X := X) u v W.H Q := by
    intro l el e
    by_cases hf : (x.fit deep && D.fitL deep l) = true
    · rw [if_pos hf] at e
      cases e
      exact .inr (in_core rx ry el hf (R := fun b => Q (.bl b) W.H) (q W Nxt.refl st _ (.bl _)))
    · rw [if_neg hf] at e; cases e
  cases y with
  | str t =>
    cases x with
    | str z =>
      match z, e', rx with
      | [], e', _ => cases e'
      | [c], e', rx =>
        cases e'
        cases rx; cases ry
        exact .inl ⟨c, S t, rfl, rfl, q W Nxt.refl st _ (.bl _)⟩
      | _ :: _ :: _, e', _ => cases e'
    | _ => cases e'
  | tup l => exact fall l rfl (by simpa [inO, D.seq?] using e')
  | lst l => exact fall l rfl (by simpa [inO, D.seq?] using e')
  | own l => exact fall l rfl (by simpa [inO, D.seq?] using e')
  | _ => cases e'
theorem R_nin : BopR X .nin (rNinA (X := X)) := by
  intro W s x y d u v Q st e rx ry q
  have e' : (inO x y).map (fun k => D.bl (!k)) = some d := by cases x <;> cases y <;> exact e
  have fall : ∀ l, y.seq? = some l → (if (x.fit deep && D.fitL deep l) = true then some (l.any fun z => z.eq x) else none).map (fun k => D.bl (!k)) = some d → rNinA (X := X) u v W.H Q := by
    intro l el e
    by_cases hf : (x.fit deep && D.fitL deep l) = true
    · rw [if_pos hf] at e
      cases e
      exact .inr (in_core rx ry el hf (R := fun b => Q (.bl (!b)) W.H) (q W Nxt.refl st _ (.bl _)))
    · rw [if_neg hf] at e; cases e
  cases y with
  | str t =>
    cases x with
    | str z =>
      match z, e', rx with
      | [], e', _ => cases e'
      | [c], e', rx =>
        cases e'
        cases rx; cases ry
        exact .inl ⟨c, S t, rfl, rfl, q W Nxt.refl st _ (.bl _)⟩
      | _ :: _ :: _, e', _ => cases e'
    | _ => cases e'
  | tup l => exact fall l rfl (by simpa [inO, D.seq?] using e')
  | lst l => exact fall l rfl (by simpa [inO, D.seq?] using e')
  | own l => exact fall l rfl (by simpa [inO, D.seq?] using e')
  | _ => cases e'
end
end Ev

namespace Ev
open PySem PySem.Spec PyProof.Rows L2
open SX (S S_cat S_len S_inj S_tl)
section
variable {X : Cx}
/-- no bool, beside one -/
def rIsX : R2 := fun x y H Q => ∃ b : Bool, y = .bl b ∧ ((∃ s, x = .str s) ∨ (∃ i, x = .int i) ∨ (∃ a, x = .ref a) ∨ x = .non) ∧ Q (.bl false) H
def rNotX : R2 := fun x y H Q => ∃ b : Bool, y = .bl b ∧ ((∃ s, x = .str s) ∨ (∃ i, x = .int i) ∨ (∃ a, x = .ref a) ∨ x = .non) ∧ Q (.bl true) H
theorem op_isX : OpR X (compareOp .Is) rIsX := by
  intro pins s σ H x y v u Q I rx ry h
  obtain ⟨b, rfl, hx, q⟩ := h
  cases (show u = Value.bool b from ry)
  rcases hx with ⟨z, rfl⟩ | ⟨i, rfl⟩ | ⟨a, rfl⟩ | rfl
  · obtain ⟨t, rfl⟩ := rx
    exact wpAny_is_other rfl (fun e => by cases e) ⟨.bl false, H, I, rfl, q⟩
  · obtain ⟨t, rfl⟩ := rx
    exact wpAny_is_other rfl (fun e => by cases e) ⟨.bl false, H, I, rfl, q⟩
  · cases (show v = Value.ref a from rx)
    exact wpAny_is_other rfl (fun e => by cases e) ⟨.bl false, H, I, rfl, q⟩
  · cases (show v = Value.none from rx)
    exact wpAny_is_other rfl (fun e => by cases e) ⟨.bl false, H, I, rfl, q⟩
theorem op_notX : OpR X (compareOp .IsNot) rNotX := by
  intro pins s σ H x y v u Q I rx ry h
  obtain ⟨b, rfl, hx, q⟩ := h
  cases (show u = Value.bool b from ry)
  rcases hx with ⟨z, rfl⟩ | ⟨i, rfl⟩ | ⟨a, rfl⟩ | rfl
  · obtain ⟨t, rfl⟩ := rx
    exact wpAny_isNot_other rfl (fun e => by cases e) ⟨.bl true, H, I, rfl, q⟩
  · obtain ⟨t, rfl⟩ := rx
    exact wpAny_isNot_other rfl (fun e => by cases e) ⟨.bl true, H, I, rfl, q⟩
  · cases (show v = Value.ref a from rx)
    exact wpAny_isNot_other rfl (fun e => by cases e) ⟨.bl true, H, I, rfl, q⟩
  · cases (show v = Value.none from rx)
    exact wpAny_isNot_other rfl (fun e => by cases e) ⟨.bl true, H, I, rfl, q⟩
abbrev rIsD : R2 := fun x y H Q => (y = .non ∧ Q (.bl (decide (x = .non))) H) ∨ rIsB x y H Q ∨ rIsX x y H Q
abbrev rNotD : R2 := fun x y H Q => (y = .non ∧ Q (.bl (!decide (x = .non))) H) ∨ rNotB x y H Q ∨ rNotX x y H Q
theorem op_isD : OpR X (compareOp .Is) rIsD := op_isN.or (op_isBl.or op_isX)
theorem op_notD : OpR X (compareOp .IsNot) rNotD := op_notN.or (op_notBl.or op_notX)
theorem non_iff {K : PySem.W.Frag} {W : Wd} {x : D} {u : V} (rx : Rp K W x u) : decide (u = .non) = (match x with | .non => true | _ => false) := by
  cases rx <;> simp
theorem R_is : BopR X .is rIsD := by
  intro W s x y d u v Q st e rx ry q
  cases y with
  | non =>
    cases ry
    refine .inl ⟨rfl, ?_⟩
    rw [non_iff rx]
    cases x <;> (cases e; exact q W Nxt.refl st _ (.bl _))
  | bl b =>
    cases x with
    | bl a => cases e; cases rx; cases ry; exact .inr (.inl ⟨_, _, rfl, rfl, q W Nxt.refl st _ (.bl _)⟩)
    | non => cases e; cases rx; cases ry; exact .inr (.inr ⟨_, rfl, .inr (.inr (.inr rfl)), q W Nxt.refl st _ (.bl _)⟩)
    | int i => cases e; cases rx; cases ry; exact .inr (.inr ⟨_, rfl, .inr (.inl ⟨_, rfl⟩), q W Nxt.refl st _ (.bl _)⟩)
    | str i => cases e; cases rx; cases ry; exact .inr (.inr ⟨_, rfl, .inl ⟨_, rfl⟩, q W Nxt.refl st _ (.bl _)⟩)
    | tup i => cases e; cases rx; cases ry; exact .inr (.inr ⟨_, rfl, .inr (.inr (.inl ⟨_, rfl⟩)), q W Nxt.refl st _ (.bl _)⟩)
    | lst i => cases e; cases rx; cases ry; exact .inr (.inr ⟨_, rfl, .inr (.inr (.inl ⟨_, rfl⟩)), q W Nxt.refl st _ (.bl _)⟩)
    | own i => cases e; cases rx; cases ry; exact .inr (.inr ⟨_, rfl, .inr (.inr (.inl ⟨_, rfl⟩)), q W Nxt.refl st _ (.bl _)⟩)
    | ref i => cases e; cases rx; cases ry; exact .inr (.inr ⟨_, rfl, .inr (.inr (.inl ⟨_, rfl⟩)), q W Nxt.refl st _ (.bl _)⟩)
    | pr i j => cases e; cases rx; cases ry; exact .inr (.inr ⟨_, rfl, .inr (.inr (.inl ⟨_, rfl⟩)), q W Nxt.refl st _ (.bl _)⟩)
  | _ => cases x <;> cases e
theorem R_isn : BopR X .isn rNotD := by
  intro W s x y d u v Q st e rx ry q
  cases y with
  | non =>
    cases ry
    refine .inl ⟨rfl, ?_⟩
    rw [non_iff rx]
    cases x <;> (cases e; exact q W Nxt.refl st _ (.bl _))
  | bl b =>
    cases x with
    | bl a => cases e; cases rx; cases ry; exact .inr (.inl ⟨_, _, rfl, rfl, q W Nxt.refl st _ (.bl _)⟩)
    | non => cases e; cases rx; cases ry; exact .inr (.inr ⟨_, rfl, .inr (.inr (.inr rfl)), q W Nxt.refl st _ (.bl _)⟩)
    | int i => cases e; cases rx; cases ry; exact .inr (.inr ⟨_, rfl, .inr (.inl ⟨_, rfl⟩), q W Nxt.refl st _ (.bl _)⟩)
    | str i => cases e; cases rx; cases ry; exact .inr (.inr ⟨_, rfl, .inl ⟨_, rfl⟩, q W Nxt.refl st _ (.bl _)⟩)
    | tup i => cases e; cases rx; cases ry; exact .inr (.inr ⟨_, rfl, .inr (.inr (.inl ⟨_, rfl⟩)), q W Nxt.refl st _ (.bl _)⟩)
    | lst i => cases e; cases rx; cases ry; exact .inr (.inr ⟨_, rfl, .inr (.inr (.inl ⟨_, rfl⟩)), q W Nxt.refl st _ (.bl _)⟩)
    | own i => cases e; cases rx; cases ry; exact .inr (.inr ⟨_, rfl, .inr (.inr (.inl ⟨_, rfl⟩)), q W Nxt.refl st _ (.bl _)⟩)
    | ref i => cases e; cases rx; cases ry; exact .inr (.inr ⟨_, rfl, .inr (.inr (.inl ⟨_, rfl⟩)), q W Nxt.refl st _ (.bl _)⟩)
    | pr i j => cases e; cases rx; cases ry; exact .inr (.inr ⟨_, rfl, .inr (.inr (.inl ⟨_, rfl⟩)), q W Nxt.refl st _ (.bl _)⟩)
  | _ => cases x <;> cases e
theorem pyAt_rp {K : PySem.W.Frag} {W : Wd} {ds : List D} {vs : List V} (r : RpL K W ds vs) {i : Int} {d : D} (h : pyAt ds i = some d) : ∃ v, atI vs i = some v ∧ d.ok = true ∧ Rp K W d v := by
  unfold pyAt pyIx at h
  unfold atI
  rw [← r.length]
  cases e : L2.ixN ds.length i with
  | none => rw [e] at h; cases h
  | some j =>
    rw [e] at h
    obtain ⟨v, h1, h2, h3⟩ := r.get (show ds[j]? = some d from h)
    exact ⟨v, h1, h2, h3⟩
theorem R_ix : BopR X .ix (rIx X.K) := by
  intro W s x y d u v Q st e rx ry q
  have fall : ∀ i, y = .int i → (x.seq?.bind fun l => pyAt l i) = some d → rIx X.K u v W.H Q := by
    intro i ey e0
    clear e
    subst ey
    cases ry
    cases e1 : x.seq? with
    | none => rw [e1] at e0; cases e0
    | some l =>
      rw [e1] at e0
      obtain ⟨a, xs, rfl, hs, z, r⟩ := seq_of e1 rx
      obtain ⟨w, h1, _, h2⟩ := pyAt_rp r (show pyAt l i = some d from e0)
      rcases hs with hs | hs
      · exact .inl ⟨a, xs, i, w, rfl, rfl, hs, h1, q W Nxt.refl st _ h2⟩
      · exact .inr (.inl ⟨a, xs, i, w, rfl, rfl, hs, h1, q W Nxt.refl st _ h2⟩)
  cases y with
  | int i =>
    cases x with
    | str t =>
      have e' : (pyAt t i).map (fun c => D.str [c]) = some d := e
      cases e1 : pyAt t i with
      | none => rw [e1] at e'; cases e'
      | some c =>
        rw [e1] at e'
        cases e'
        cases rx with | str _ h z =>
        cases ry
        have hm : c ∈ t := by
          unfold pyAt at e1
          cases e2 : pyIx t.length i with
          | none => rw [e2] at e1; cases e1
          | some j => rw [e2] at e1; exact List.mem_of_getElem? (show t[j]? = some c from e1)
        refine .inr (.inr ⟨S t, i, c, rfl, rfl, ?_, ?_, q W Nxt.refl st _ (.str [c] ?_ ?_)⟩)
        · rw [S_len, ← lim_eq]; exact z
        · exact e1
        · have := List.all_eq_true.mp h c hm
          simpa using this
        · show 1 ≤ lim
          decide
    | _ => exact fall i rfl e
  | _ => cases x <;> cases e
theorem e_ix {cv : Nat → Value} {wx : WX} {a b : Expr} {fa fb : Env → M D} {pos : Pos} (hs : PlainIx b) (ha : EvE X cv wx a fa) (hb : EvE X cv wx b fb) : EvE X cv wx (.Subscript a b pos) fun ρ => bnd (fa ρ) fun x => bnd (fb ρ) fun y => ofO (bop .ix x y) :=
  e_two R_ix (pe_ix ix_seq ha hb hs)

variable {cv : Nat → Value} {wx : WX} {a b c : Expr} {es : List Expr} {fa fb fc : Env → M D} {fl : Env → M (List D)} {pos : Pos}
theorem asOk_inv {K : PySem.W.Frag} {σ : L2.St} {W : Wd} {s : Store} {d : D} {Q : D → Wd → Store → Prop} (h : Aft K cv W σ wx (asOk d s) Q) : d.ok = true ∧ ∀ W', Nxt W W' → StOk K W' s → Q d W' s := by
  unfold asOk at h
  by_cases e : d.ok = true
  · rw [if_pos e] at h
    exact ⟨e, h⟩
  · rw [if_neg e] at h
    exact False.elim h
theorem a_nil : EvA X cv wx [] fun _ => pur [] := by
  refine PA.imp pa_nil fun σ H Q ⟨ρ, s, W0, W, e, at_, h⟩ => ?_
  subst e
  exact h W Nxt.refl at_.st [] .nil
theorem a_cons (hs : starEach (a :: es) X.env = (false, eval a X.env) :: starEach es X.env) (ha : EvE X cv wx a fa) (hr : EvA X cv wx es fl) :
    EvA X cv wx (a :: es) fun ρ => bnd (fa ρ) fun x => bnd (asOk x) fun y => bnd (fl ρ) fun ys => pur (y :: ys) := by
  refine PA.imp (pa_cons ha hr hs) fun σ H Q ⟨ρ, s, W0, W, e, at_, h⟩ => ?_
  refine ⟨ρ, s, W0, W, e, at_, h.bnd.mono fun x W1 s1 n1 st1 h1 u ru => ?_⟩
  obtain ⟨ok, h2⟩ := asOk_inv h1.bnd
  have h3 := h2 W1 Nxt.refl st1
  refine ⟨ρ, s1, W0, W1, rfl, at_.next n1 st1, h3.bnd.mono fun ys W2 s2 n2 st2 h4 vs rvs => ?_⟩
  exact h4 W2 Nxt.refl st2 _ (.cons ok (n2.rp st1.inF ru) rvs)
theorem len_evL {Φ : Fun} {C : Nat → Option D} : ∀ {l : Ex} {ρ : Env} {s : Store} {ds : List D} {s' : Store} {n : Nat}, True → True := fun _ => trivial
theorem e_tup {k : Nat} (h : EvA X cv wx es fl) (hz : es.length ≤ 1000) (hl : ∀ ρ s ds s', fl ρ s = some (.ok ds, s') → ds.length = es.length) : EvE X cv wx (.Tuple es k pos) fun ρ => bnd (fl ρ) fun ds => pur (.tup ds) := by
  refine PE.imp (pe_tupX h) fun σ H Q ⟨ρ, s, W0, W, e, at_, h⟩ => ?_
  have key : ∀ ds s', fl ρ s = some (.ok ds, s') → ds.length ≤ lim := fun ds s' q => by
    rw [hl _ _ _ _ q]
    exact Nat.le_trans hz (by decide)
  refine ⟨ρ, s, W0, W, e, at_, ?_⟩
  have h0 := h.bnd
  cases q : fl ρ s with
  | none => rw [q] at h0; exact h0
  | some r =>
    obtain ⟨r, s'⟩ := r
    rw [q] at h0
    cases r with
    | err e => exact h0
    | ok ds =>
      have hk := key ds s' q
      intro W1 n1 st1 vs rvs
      have h1 := h0 W1 n1 st1
      exact ⟨by rw [← rvs.length, ← lim_eq]; exact hk, newT st1 hk rvs h1⟩
theorem n_lst (h : EvA X cv wx es fl) (hz : es.length ≤ 1000) (hl : ∀ ρ s ds s', fl ρ s = some (.ok ds, s') → ds.length = es.length) : EvN X cv wx (.List es pos) fl := by
  refine PE.imp (pe_lst h) fun σ H Q ⟨ρ, s, W0, W, e, at_, h0⟩ => ?_
  have key : ∀ ds s', fl ρ s = some (.ok ds, s') → ds.length ≤ lim := fun ds s' q => by
    rw [hl _ _ _ _ q]
    exact Nat.le_trans hz (by decide)
  refine ⟨ρ, s, W0, W, e, at_, ?_⟩
  cases q : fl ρ s with
  | none => rw [q] at h0; exact h0
  | some r =>
    obtain ⟨r, s'⟩ := r
    rw [q] at h0
    cases r with
    | err e => exact h0
    | ok ds =>
      have hk := key ds s' q
      intro W1 n1 st1 vs rvs
      have h1 := h0 W1 n1 st1
      exact ⟨by rw [← rvs.length, ← lim_eq]; exact hk, fun p hp => h1 vs p rvs hk hp⟩

def UopR (X : Cx) (o : Uo) (r : List V → Hp → VK → Prop) : Prop := ∀ (W : Wd) (s : Store) (x d : D) (u : V) (Q : VK), StOk X.K W s → uop o x = some d → Rp X.K W x u →
  (∀ W', Nxt W W' → StOk X.K W' s → ∀ z, Rp X.K W' d z → Q z W'.H) → r [u] W.H Q
theorem e_un1 {o : Uo} {r : List V → Hp → VK → Prop} {e : Expr} (hr : UopR X o r) (he : PE X e (tCB r (tCons (tE X.K cv wx fa) tNil))) : EvE X cv wx e fun ρ => bnd (fa ρ) fun x => ofO (uop o x) := by
  refine PE.imp he fun σ H Q ⟨ρ, s, W0, W, e, at_, h⟩ => ?_
  refine ⟨ρ, s, W0, W, e, at_, h.bnd.mono fun x W1 s1 n1 st1 h1 u ru => ?_⟩
  obtain ⟨d, e2, h3⟩ := h1.ofO
  exact hr W1 s1 x d u Q st1 e2 ru fun W' n' st' z rz => h3 W' n' st' z rz
theorem U_len : UopR X .len (fun xs H Q => (∃ p ys, xs = [.ref p] ∧ (SqL X.K H p ys ∨ SqT X.K H p ys) ∧ Q (.int ys.length) H) ∨ (∃ z, xs = [.str z] ∧ z.length ≤ sizeLine ∧ Q (.int z.length) H)) := by
  intro W s x d u Q st e rx q
  cases x with
  | str t =>
    cases e
    cases rx with | str _ h z =>
    refine .inr ⟨S t, rfl, by rw [S_len, ← lim_eq]; exact z, ?_⟩
    rw [S_len]
    exact q W Nxt.refl st _ (.int _)
  | tup l =>
    cases e
    obtain ⟨a, xs, rfl, hs, z, r⟩ := seq_of (d := .tup l) rfl rx
    refine .inl ⟨a, xs, rfl, hs, ?_⟩
    rw [← r.length]
    exact q W Nxt.refl st _ (.int _)
  | lst l =>
    cases e
    obtain ⟨a, xs, rfl, hs, z, r⟩ := seq_of (d := .lst l) rfl rx
    refine .inl ⟨a, xs, rfl, hs, ?_⟩
    rw [← r.length]
    exact q W Nxt.refl st _ (.int _)
  | own l =>
    cases e
    obtain ⟨a, xs, rfl, hs, z, r⟩ := seq_of (d := .own l) rfl rx
    refine .inl ⟨a, xs, rfl, hs, ?_⟩
    rw [← r.length]
    exact q W Nxt.refl st _ (.int _)
  | _ => cases e
theorem U_int : UopR X .int (fun xs H Q => (∃ i, xs = [.int i] ∧ Q (.int i) H) ∨ ∃ k, xs = [.bl k] ∧ Q (.int (if k then 1 else 0)) H) := by
  intro W s x d u Q st e rx q
  cases x with
  | int i => cases e; cases rx; exact .inl ⟨i, rfl, q W Nxt.refl st _ (.int _)⟩
  | bl b => cases e; cases rx; exact .inr ⟨b, rfl, q W Nxt.refl st _ (.int _)⟩
  | _ => cases e
theorem bls_rp {K : PySem.W.Frag} {W : Wd} : ∀ {l : List D} {vs : List V} {bs : List Bool}, blsOf l = some bs → RpL K W l vs → vs = bs.map V.bl
  | [], _, _, e, r => by cases e; cases r; rfl
  | d :: l, vs, bs, e, r => by
    cases r with | cons o h r =>
    cases d with
    | bl b =>
      simp only [blsOf] at e
      cases e1 : blsOf l with
      | none => rw [e1] at e; cases e
      | some bs' =>
        rw [e1] at e
        cases e
        cases h
        rw [bls_rp e1 r]
        rfl
    | _ => cases e
theorem U_all : UopR X .all (rAll X.K) := by
  intro W s x d u Q st e rx q
  have e' : (x.lst?.bind fun l => (blsOf l).map fun bs => D.bl (bs.all id)) = some d := by cases x <;> exact e
  cases e1 : x.lst? with
  | none => rw [e1] at e'; cases e'
  | some l =>
    rw [e1] at e'
    obtain ⟨a, xs, rfl, h1, z, r⟩ := lst_of e1 rx
    cases e2 : blsOf l with
    | none =>
      have e3 : (blsOf l).map (fun bs => D.bl (bs.all id)) = some d := e'
      rw [e2] at e3; cases e3
    | some bs =>
      have e3 : (blsOf l).map (fun bs => D.bl (bs.all id)) = some d := e'
      rw [e2] at e3
      cases e3
      have ev := bls_rp e2 r
      subst ev
      exact ⟨a, bs, rfl, .inl h1, q W Nxt.refl st _ (.bl _)⟩
theorem U_any : UopR X .any (rAny X.K) := by
  intro W s x d u Q st e rx q
  have e' : (x.lst?.bind fun l => (blsOf l).map fun bs => D.bl (bs.any id)) = some d := by cases x <;> exact e
  cases e1 : x.lst? with
  | none => rw [e1] at e'; cases e'
  | some l =>
    rw [e1] at e'
    obtain ⟨a, xs, rfl, h1, z, r⟩ := lst_of e1 rx
    cases e2 : blsOf l with
    | none =>
      have e3 : (blsOf l).map (fun bs => D.bl (bs.any id)) = some d := e'
      rw [e2] at e3; cases e3
    | some bs =>
      have e3 : (blsOf l).map (fun bs => D.bl (bs.any id)) = some d := e'
      rw [e2] at e3
      cases e3
      have ev := bls_rp e2 r
      subst ev
      exact ⟨a, bs, rfl, .inl h1, q W Nxt.refl st _ (.bl _)⟩
theorem U_tuple : UopR X .tuple (fun xs H Q => ∃ p ys, xs = [.ref p] ∧ ((SqL X.K H p ys ∧ ∀ l o, o.dict = none → H l = none → Q (.ref l) (upd H l (.frz o (.tup ys)))) ∨ (SqX X.K H p ys ∧ Q (.ref p) H))) := by
  intro W s x d u Q st e rx q
  cases x with
  | tup l =>
    cases e
    cases rx with | tup h z r =>
    exact ⟨_, _, rfl, .inr ⟨h, q W Nxt.refl st _ (.tup h z r)⟩⟩
  | lst l =>
    cases e
    cases rx with | lst h nf z r =>
    exact ⟨_, _, rfl, .inl ⟨.inl h, newT st z r q⟩⟩
  | own l =>
    cases e
    cases rx with | own h f na z r =>
    exact ⟨_, _, rfl, .inl ⟨.inl (.inl h), newT st z r q⟩⟩
  | _ => cases e
theorem U_list : UopR X .list (fun xs H Q => ∃ p ys, xs = [.ref p] ∧ (SqL X.K H p ys ∨ SqT X.K H p ys) ∧ ∀ l, H l = none → Q (.ref l) (upd H l (.lst ys))) := by
  intro W s x d u Q st e rx q
  have e' : x.seq?.map D.lst = some d := by cases x <;> exact e
  cases e1 : x.seq? with
  | none => rw [e1] at e'; cases e'
  | some l =>
    rw [e1] at e'
    cases e'
    obtain ⟨a, xs, rfl, hs, z, r⟩ := seq_of e1 rx
    exact ⟨a, xs, rfl, hs, newL st z r q⟩
theorem U_neg : ∀ (W : Wd) (s : Store) (x d : D) (u : V) (Q : VK), StOk X.K W s → uop .neg x = some d → Rp X.K W x u →
  (∀ W', Nxt W W' → StOk X.K W' s → ∀ z, Rp X.K W' d z → Q z W'.H) → rU (fun i => .int (-i)) u W.H Q := by
  intro W s x d u Q st e rx q
  cases x with
  | int i => cases e; cases rx; exact ⟨i, rfl, q W Nxt.refl st _ (.int _)⟩
  | _ => cases e
theorem e_neg (ha : EvE X cv wx a fa) : EvE X cv wx (.UnaryOp .USub a pos) fun ρ => bnd (fa ρ) fun x => ofO (uop .neg x) := by
  refine PE.imp (pe_un un_neg ha) fun σ H Q ⟨ρ, s, W0, W, e, at_, h⟩ => ?_
  refine ⟨ρ, s, W0, W, e, at_, h.bnd.mono fun x W1 s1 n1 st1 h1 u ru => ?_⟩
  obtain ⟨d, e2, h3⟩ := h1.ofO
  exact U_neg W1 s1 x d u Q st1 e2 ru fun W' n' st' z rz => h3 W' n' st' z rz
/-- the type's name of a datum -/
def tyN : D → Option String
  | .non => some "NoneType"
  | .bl _ => some "bool"
  | .int _ => some "int"
  | .str _ => some "str"
  | .tup _ => some "tuple"
  | .lst _ => some "list"
  | .own _ => some "list"
  | .ref _ => none
  | .pr _ _ => none
theorem ty_of {K : PySem.W.Frag} {W : Wd} {x : D} {u : V} {t : String} (e : tyN x = some t) (rx : Rp K W x u) : TyX K W.H u (.type t) := by
  cases rx with
  | non => cases e; exact .base .non
  | bl b => cases e; exact .base (.bl b)
  | int i => cases e; exact .base (.int i)
  | str s _ _ => cases e; exact .base (.str _)
  | tup h _ _ =>
    cases e
    rcases h with ⟨o, _, h⟩ | ⟨o, its, n, _, h, c, _⟩
    · exact .fTuple h
    · exact .kTuple h c
  | pr _ _ _ _ _ => cases e
  | lst h _ _ _ =>
    cases e
    rcases h with h | ⟨o, h⟩
    · exact .base (.lst h)
    · exact .base (.frz h)
  | own h _ _ _ _ => cases e; exact .base (.lst h)
  | ref _ => cases e
/-- isinstance(a, T) -/
theorem e_isi {o : Uo} {T : String} {e : Expr} (hT : ∀ t b, (∃ x, tyN x = some t ∧ uop o x = some b) → ∃ k, b = D.bl k ∧ kitB t T = some k) (hN : ∀ x b, uop o x = some b → ∃ t, tyN x = some t)
    (he : PE X e (tCB (rIsi X.K) (tCons (tE X.K cv wx fa) (tCons (tC (.ty T)) tNil)))) : EvE X cv wx e fun ρ => bnd (fa ρ) fun x => ofO (uop o x) := by
  refine PE.imp he fun σ H Q ⟨ρ, s, W0, W, e, at_, h⟩ => ?_
  refine ⟨ρ, s, W0, W, e, at_, h.bnd.mono fun x W1 s1 n1 st1 h1 u ru => ?_⟩
  obtain ⟨d, e2, h3⟩ := h1.ofO
  obtain ⟨t, e3⟩ := hN x d e2
  obtain ⟨k, rfl, e4⟩ := hT t d ⟨x, e3, e2⟩
  exact ⟨u, .ty T, .type t, .type T, k, rfl, .ty T, ty_of e3 ru, kit_ty e4, h3 W1 Nxt.refl st1 _ (.bl _)⟩
/-- min, max of two -/
theorem e_mm {o : Bo} {r : List V → Hp → VK → Prop} {e : Expr} (hr : ∀ i j : Int, ∃ k : Int, bop o (.int i) (.int j) = some (.int k) ∧ ∀ (H : Hp) (Q : VK), Q (.int k) H → r [.int i, .int j] H Q) (hn : ∀ x y d, bop o x y = some d → (∃ i, x = .int i) ∧ ∃ j, y = .int j)
    (he : PE X e (tCB r (tCons (tE X.K cv wx fa) (tCons (tE X.K cv wx fb) tNil)))) : EvE X cv wx e fun ρ => bnd (fa ρ) fun x => bnd (fb ρ) fun y => ofO (bop o x y) := by
  refine PE.imp he fun σ H Q ⟨ρ, s, W0, W, e, at_, h⟩ => ?_
  refine ⟨ρ, s, W0, W, e, at_, h.bnd.mono fun x W1 s1 n1 st1 h1 u ru => ?_⟩
  refine ⟨ρ, s1, W0, W1, rfl, at_.next n1 st1, h1.bnd.mono fun y W2 s2 n2 st2 h2 v rv => ?_⟩
  obtain ⟨d, e2, h3⟩ := h2.ofO
  obtain ⟨⟨i, rfl⟩, j, rfl⟩ := hn _ _ _ e2
  obtain ⟨k, ek, hk⟩ := hr i j
  rw [ek] at e2
  cases e2
  cases ru; cases rv
  exact hk _ _ (h3 W2 Nxt.refl st2 _ (.int _))

abbrev rCutD : V → Option Int → Option Int → Hp → VK → Prop := fun x lo hi H Q => rSlL X.K x lo hi H Q ∨ rSlX X.K x lo hi H Q
theorem sl_D : SlR X (rCutD (X := X)) := sl_list.or sl_tupX
def tO (K : PySem.W.Frag) (cv : Nat → Value) (wx : WX) (f : Env → M (Option Int)) : TO := fun σ H Q => ∃ ρ s W0 W, W.H = H ∧ At K σ ρ s W0 W ∧ Aft K cv W σ wx (f ρ s) fun o W' _ => Q o W'.H
theorem PO.imp {e : Option Expr} {t t' : TO} (h : PO X e t) (i : ∀ σ H Q, t' σ H Q → t σ H Q) : PO X e t' := ⟨fun pins s σ H Q I q => h.run pins s σ H Q I (i σ H Q q)⟩
theorem o_none : PO X none (tO X.K cv wx fun _ => pur none) := by
  refine PO.imp po_none fun σ H Q ⟨ρ, s, W0, W, e, at_, h⟩ => ?_
  subst e
  exact h W Nxt.refl at_.st
theorem o_some (ha : EvE X cv wx a fa) : PO X (some a) (tO X.K cv wx fun ρ => bnd (fa ρ) intOf) := by
  refine PO.imp (po_some ha) fun σ H Q ⟨ρ, s, W0, W, e, at_, h⟩ => ?_
  refine ⟨ρ, s, W0, W, e, at_, h.bnd.mono fun x W1 s1 n1 st1 h1 u ru => ?_⟩
  cases x with
  | int i => cases ru; exact ⟨i, rfl, h1 W1 Nxt.refl st1⟩
  | _ => exact False.elim h1
theorem cutV_take {K : PySem.W.Frag} {W : Wd} {ds : List D} {vs : List V} (r : RpL K W ds vs) (lo hi : Option Int) : RpL K W (pyCut ds lo hi) (cutV vs lo hi) := by
  unfold pyCut cutV
  rw [← r.length]
  exact (r.drop _).take _
theorem pyCut_len {α : Type} (l : List α) (lo hi : Option Int) : (pyCut l lo hi).length ≤ l.length := by
  unfold pyCut
  rw [List.length_take, List.length_drop]
  omega
theorem e_cut {lo hi : Option Expr} {fo fh : Env → M (Option Int)} {p2 : Pos} (ha : EvE X cv wx a fa) (hl : PO X lo (tO X.K cv wx fo)) (hh : PO X hi (tO X.K cv wx fh)) :
    EvE X cv wx (.Subscript a (.Slice lo hi none p2) pos) fun ρ => bnd (fa ρ) fun x => bnd (fo ρ) fun l => bnd (fh ρ) fun h => ofO (cutO x l h) := by
  refine PE.imp (pe_slice sl_D ha hl hh) fun σ H Q ⟨ρ, s, W0, W, e, at_, h⟩ => ?_
  refine ⟨ρ, s, W0, W, e, at_, h.bnd.mono fun x W1 s1 n1 st1 h1 u ru => ?_⟩
  refine ⟨ρ, s1, W0, W1, rfl, at_.next n1 st1, h1.bnd.mono fun l W2 s2 n2 st2 h2 => ?_⟩
  refine ⟨ρ, s2, W0, W2, rfl, (at_.next n1 st1).next n2 st2, h2.bnd.mono fun hh' W3 s3 n3 st3 h3 => ?_⟩
  obtain ⟨d, e2, h4⟩ := h3.ofO
  have ru' : Rp X.K W3 x u := n3.rp st2.inF (n2.rp st1.inF ru)
  cases x with
  | tup ds =>
    cases e2
    cases ru' with | tup h z r =>
    rename_i ad xs
    refine .inr ⟨ad, xs, rfl, h, fun hw => ?_, fun _ => newT st3 (Nat.le_trans (pyCut_len _ _ _) z) (cutV_take r l hh') h4⟩
    have eq : pyCut ds l hh' = ds := by
      unfold pyCut
      rw [r.length, hw.1, hw.2, ← r.length]
      simp
    rw [eq] at h4
    exact h4 W3 Nxt.refl st3 _ (.tup h z r)
  | lst ds =>
    cases e2
    cases ru' with | lst h nf z r =>
    exact .inl ⟨_, _, rfl, .inl h, newL st3 (Nat.le_trans (pyCut_len _ _ _) z) (cutV_take r l hh') h4⟩
  | own ds =>
    cases e2
    cases ru' with | own h f na z r =>
    exact .inl ⟨_, _, rfl, .inl (.inl h), newL st3 (Nat.le_trans (pyCut_len _ _ _) z) (cutV_take r l hh') h4⟩
  | _ => cases e2

variable {rest : List Expr} {ft fu : Env → M Bool}
theorem t_not (ha : EvT X cv wx a ft) : EvT X cv wx (.UnaryOp .Not a pos) fun ρ => bnd (ft ρ) fun k => pur (!k) := by
  refine PT.imp (pt_not ha) fun σ H Q ⟨ρ, s, W0, W, e, at_, h⟩ => ⟨ρ, s, W0, W, e, at_, h.bnd.mono fun k W1 s1 n1 st1 h1 => h1.pur st1⟩
theorem w_and1 (ha : EvT X cv wx a ft) : PW X (.BoolOp .And [a] pos) (tT X.K cv wx ft) := pw_and1 ha
theorem w_or1 (ha : EvT X cv wx a ft) : PW X (.BoolOp .Or [a] pos) (tT X.K cv wx ft) := pw_or1 ha
theorem w_and (ha : EvT X cv wx a ft) (hb : PW X (.BoolOp .And (b :: rest) pos) (tT X.K cv wx fu)) : PW X (.BoolOp .And (a :: b :: rest) pos) (tT X.K cv wx fun ρ => bnd (ft ρ) fun k => if k then fu ρ else pur false) := by
  refine PW.imp (pw_and ha hb) fun σ H Q ⟨ρ, s, W0, W, e, at_, h⟩ => ⟨ρ, s, W0, W, e, at_, h.bnd.mono fun k W1 s1 n1 st1 h1 => ?_⟩
  cases k with
  | true => exact ⟨ρ, s1, W0, W1, rfl, at_.next n1 st1, h1⟩
  | false => exact h1.pur st1
theorem w_or (ha : EvT X cv wx a ft) (hb : PW X (.BoolOp .Or (b :: rest) pos) (tT X.K cv wx fu)) : PW X (.BoolOp .Or (a :: b :: rest) pos) (tT X.K cv wx fun ρ => bnd (ft ρ) fun k => if k then pur true else fu ρ) := by
  refine PW.imp (pw_or ha hb) fun σ H Q ⟨ρ, s, W0, W, e, at_, h⟩ => ⟨ρ, s, W0, W, e, at_, h.bnd.mono fun k W1 s1 n1 st1 h1 => ?_⟩
  cases k with
  | true => exact h1.pur st1
  | false => exact ⟨ρ, s1, W0, W1, rfl, at_.next n1 st1, h1⟩
theorem e_one {op : BoolOp} (ha : EvE X cv wx a fa) : EvE X cv wx (.BoolOp op [a] pos) fa := pe_one ha
theorem e_and (ha : EvE X cv wx a fa) (hb : EvE X cv wx (.BoolOp .And (b :: rest) pos) fb) : EvE X cv wx (.BoolOp .And (a :: b :: rest) pos) fun ρ => bnd (fa ρ) fun x => bnd (asBl x) fun k => if k then fb ρ else pur (.bl false) := by
  refine PE.imp (pe_and ha hb) fun σ H Q ⟨ρ, s, W0, W, e, at_, h⟩ => ⟨ρ, s, W0, W, e, at_, h.bnd.mono fun x W1 s1 n1 st1 h1 u ru => ?_⟩
  obtain ⟨k, rfl, h2⟩ := asBl_inv h1.bnd
  cases ru
  have h3 := h2 W1 Nxt.refl st1
  refine ⟨k, rfl, ?_⟩
  cases k with
  | true => exact ⟨ρ, s1, W0, W1, rfl, at_.next n1 st1, h3⟩
  | false => exact h3.pur st1 _ (.bl _)
theorem e_or (ha : EvE X cv wx a fa) (hb : EvE X cv wx (.BoolOp .Or (b :: rest) pos) fb) : EvE X cv wx (.BoolOp .Or (a :: b :: rest) pos) fun ρ => bnd (fa ρ) fun x => bnd (asBl x) fun k => if k then pur (.bl true) else fb ρ := by
  refine PE.imp (pe_or ha hb) fun σ H Q ⟨ρ, s, W0, W, e, at_, h⟩ => ⟨ρ, s, W0, W, e, at_, h.bnd.mono fun x W1 s1 n1 st1 h1 u ru => ?_⟩
  obtain ⟨k, rfl, h2⟩ := asBl_inv h1.bnd
  cases ru
  have h3 := h2 W1 Nxt.refl st1
  refine ⟨k, rfl, ?_⟩
  cases k with
  | true => exact h3.pur st1 _ (.bl _)
  | false => exact ⟨ρ, s1, W0, W1, rfl, at_.next n1 st1, h3⟩
theorem e_not (ha : EvE X cv wx a fa) : EvE X cv wx (.UnaryOp .Not a pos) fun ρ => bnd (fa ρ) fun x => bnd (asBl x) fun k => pur (.bl (!k)) := by
  refine PE.imp (pe_not ha) fun σ H Q ⟨ρ, s, W0, W, e, at_, h⟩ => ⟨ρ, s, W0, W, e, at_, h.bnd.mono fun x W1 s1 n1 st1 h1 u ru => ?_⟩
  obtain ⟨k, rfl, h2⟩ := asBl_inv h1.bnd
  cases ru
  exact ⟨k, rfl, (h2 W1 Nxt.refl st1).pur st1 _ (.bl _)⟩
theorem e_ite (hc : EvT X cv wx c ft) (ha : EvE X cv wx a fa) (hb : EvE X cv wx b fb) : EvE X cv wx (.IfExp c a b pos) fun ρ => bnd (ft ρ) fun k => if k then fa ρ else fb ρ := by
  refine PE.imp (pe_ifExp hc ha hb) fun σ H Q ⟨ρ, s, W0, W, e, at_, h⟩ => ⟨ρ, s, W0, W, e, at_, h.bnd.mono fun k W1 s1 n1 st1 h1 => ?_⟩
  cases k with
  | true => exact ⟨ρ, s1, W0, W1, rfl, at_.next n1 st1, h1⟩
  | false => exact ⟨ρ, s1, W0, W1, rfl, at_.next n1 st1, h1⟩
end
end Ev

namespace Ev
open PySem PySem.Spec PyProof.Rows L2
open SX (S S_cat S_len S_inj S_tl)
section
variable {K : PySem.W.Frag} {σ : L2.St} {ρ ρ' : Env} {s : Store} {W0 W : Wd}
theorem At.set (a : At K σ ρ s W0 W) {i : Nat} {d : D} {v : V} (ok : d.ok = true) (r : Rp K W d v) : At K (σ.set i (some v)) (ρ.set i (some d)) s W0 W := by
  have no : ∀ (j : Nat) ds, (ρ.set i (some d))[j]? = some (some (.own ds)) → j ≠ i ∧ ρ[j]? = some (some (.own ds)) := fun j ds h => by
    by_cases hj : i = j
    · subst hj
      rw [List.getElem?_set] at h
      simp only [if_pos] at h
      split at h
      · cases h; cases ok
      · cases h
    · rw [List.getElem?_set_ne hj] at h
      exact ⟨fun z => hj z.symm, h⟩
  refine ⟨⟨a.fr.nx, a.fr.tr0, a.fr.tr1, by rw [List.length_set, List.length_set]; exact a.fr.len, fun j e h => ?_, fun j ds ad h1 h2 => ?_, fun j k ds es ad hjk h1 h2 h3 => ?_⟩, a.st⟩
  · by_cases hj : i = j
    · subst hj
      rw [List.getElem?_set] at h
      simp only [if_pos] at h
      split at h
      · rename_i hlt
        cases h
        refine ⟨v, ?_, r⟩
        rw [List.getElem?_set]
        simp only [if_pos]
        rw [if_pos (by rw [← a.fr.len]; exact hlt)]
      · cases h
    · rw [List.getElem?_set_ne hj] at h
      rw [List.getElem?_set_ne hj]
      exact a.fr.slot j e h
  · obtain ⟨hj, h1⟩ := no j ds h1
    rw [List.getElem?_set_ne (Ne.symm hj)] at h2
    exact a.fr.own j ds ad h1 h2
  · obtain ⟨hj, h1⟩ := no j ds h1
    obtain ⟨hk, h2⟩ := no k es h2
    rw [List.getElem?_set_ne (Ne.symm hj)] at h3
    rw [List.getElem?_set_ne (Ne.symm hk)]
    exact a.fr.sep j k ds es ad hjk h1 h2 h3
theorem At.wipe (a : At K σ ρ s W0 W) : ∀ own : List Nat, At K (L2.wipe σ own) (wipeE ρ own) s W0 W
  | [] => a
  | i :: is => by
    have b := At.wipe a is
    have no : ∀ (j : Nat) d, (wipeE ρ (i :: is))[j]? = some (some d) → j ≠ i ∧ (wipeE ρ is)[j]? = some (some d) := fun j d h => by
      have h' : ((wipeE ρ is).set i none)[j]? = some (some d) := h
      by_cases hj : i = j
      · subst hj
        rw [List.getElem?_set] at h'
        simp only [if_pos] at h'
        split at h' <;> cases h'
      · rw [List.getElem?_set_ne hj] at h'
        exact ⟨fun z => hj z.symm, h'⟩
    have at_ : ∀ j : Nat, j ≠ i → (L2.wipe σ (i :: is))[j]? = (L2.wipe σ is)[j]? := fun j hj => by
      show ((L2.wipe σ is).set i none)[j]? = _
      rw [List.getElem?_set_ne (Ne.symm hj)]
    refine ⟨⟨b.fr.nx, b.fr.tr0, b.fr.tr1, ?_, fun j d h => ?_, fun j ds ad h1 h2 => ?_, fun j k ds es ad hjk h1 h2 h3 => ?_⟩, b.st⟩
    · show ((wipeE ρ is).set i none).length = ((L2.wipe σ is).set i none).length
      rw [List.length_set, List.length_set]; exact b.fr.len
    · obtain ⟨hj, h⟩ := no j d h
      rw [at_ j hj]
      exact b.fr.slot j d h
    · obtain ⟨hj, h1⟩ := no j _ h1
      rw [at_ j hj] at h2
      exact b.fr.own j ds ad h1 h2
    · obtain ⟨hj, h1⟩ := no j _ h1
      obtain ⟨hk, h2⟩ := no k _ h2
      rw [at_ j hj] at h3
      rw [at_ k hk]
      exact b.fr.sep j k ds es ad hjk h1 h2 h3
end

def setsV : List Nat → List V → L2.St → L2.St
  | i :: is, v :: vs, σ => setsV is vs (σ.set i (some v))
  | _, _, σ => σ
def gNames : List Nat → TGs
  | [] => gNil
  | i :: is => gCons (gName i) (gNames is)
theorem gNames_of : ∀ (is : List Nat) (vs : List V) (σ : L2.St) (H : Hp) (Q : L2.St → Hp → Prop), vs.length = is.length → Q (setsV is vs σ) H → gNames is vs σ H Q
  | [], [], _, _, _, _, q => ⟨rfl, q⟩
  | i :: is, v :: vs, σ, H, Q, h, q => ⟨v, vs, rfl, gNames_of is vs (σ.set i (some v)) H Q (by simpa using h) q⟩
  | [], _ :: _, _, _, _, h, _ => by simp at h
  | _ :: _, [], _, _, _, h, _ => by simp at h
theorem At.sets {K : PySem.W.Frag} {s : Store} {W0 W : Wd} {is : List Nat} : ∀ {ds : List D} {vs : List V} {σ : L2.St} {ρ : Env}, At K σ ρ s W0 W → RpL K W ds vs → At K (setsV is vs σ) (Ev.sets is ds ρ) s W0 W := by
  induction is with
  | nil => intro ds vs σ ρ a r; cases ds <;> cases vs <;> exact a
  | cons i is ih =>
    intro ds vs σ ρ a r
    cases r with
    | nil => exact a
    | cons ok h r => exact ih (a.set ok h) r
def gOf (K : PySem.W.Frag) : List Nat → TG
  | [i] => gName i
  | is => gTup K is.length (gNames is)
/-- a datum given to a target -/
theorem gOf_of {K : PySem.W.Frag} {σ : L2.St} {ρ ρ' : Env} {s : Store} {W0 W : Wd} {tg : List Nat} {d : D} {v : V} {Q : L2.St → Hp → Prop} (a : At K σ ρ s W0 W) (ok : d.ok = true) (r : Rp K W d v) (h : bindT tg d ρ = some ρ')
    (q : ∀ σ', At K σ' ρ' s W0 W → Q σ' W.H) : gOf K tg v σ W.H Q := by
  have many : ∀ is : List Nat, bindTs is d ρ = some ρ' → gTup K is.length (gNames is) v σ W.H Q := fun is h => by
    cases d with
    | tup ds =>
      have h' : (if ds.length = is.length then some (sets is ds ρ) else none) = some ρ' := h
      by_cases hl : ds.length = is.length
      · rw [if_pos hl] at h'
        cases h'
        cases r with | tup hs z r =>
        rename_i ad xs
        have hx : xs.length = is.length := by rw [← r.length]; exact hl
        exact ⟨ad, xs, rfl, hs.t, hx, gNames_of is xs σ W.H Q hx (q _ (a.sets r))⟩
      · rw [if_neg hl] at h'; cases h'
    | pr d1 d2 =>
      have h' : (if is.length = 2 then some (sets is [d1, d2] ρ) else none) = some ρ' := h
      by_cases hl : is.length = 2
      · rw [if_pos hl] at h'
        cases h'
        cases r with | @pr ad v1 v2 _ _ hs o1 o2 r1 r2 =>
        have r : RpL K W [d1, d2] [v1, v2] := .cons o1 r1 (.cons o2 r2 .nil)
        exact ⟨ad, [v1, v2], rfl, hs, hl.symm, gNames_of is _ σ W.H Q hl.symm (q _ (a.sets r))⟩
      · rw [if_neg hl] at h'; cases h'
    | _ => cases h
  match tg, h with
  | [], h => exact many [] h
  | [i], h =>
    cases h
    exact q _ (a.set ok r)
  | i :: j :: is, h => exact many (i :: j :: is) h
theorem gOf_wipe {K : PySem.W.Frag} {σ : L2.St} {ρ ρ' : Env} {s : Store} {W0 W : Wd} {tg : List Nat} {d : D} {v : V} {Q : L2.St → Hp → Prop} (a : At K (L2.wipe σ tg) (wipeE ρ tg) s W0 W) (ok : d.ok = true) (r : Rp K W d v) (h : bindT tg d (wipeE ρ tg) = some ρ') (nd : tg.Nodup)
    (q : ∀ σ', At K σ' ρ' s W0 W → L2.wipe σ' tg = L2.wipe σ tg → Q σ' W.H) : gOf K tg v (L2.wipe σ tg) W.H Q := by
  have wset : ∀ (σ : L2.St) (own : List Nat) (i : Nat) (x : Option V), i ∈ own → L2.wipe (σ.set i x) own = L2.wipe σ own := by
    intro σ own
    induction own with
    | nil => intro i x h; cases h
    | cons j own ih =>
      intro i x h
      show (L2.wipe (σ.set i x) own).set j none = (L2.wipe σ own).set j none
      by_cases hm : i ∈ own
      · rw [ih i x hm]
      · rcases List.mem_cons.mp h with rfl | h
        · have comm : ∀ (σ : L2.St) (own : List Nat), i ∉ own → L2.wipe (σ.set i x) own = (L2.wipe σ own).set i x := by
            intro σ own
            induction own with
            | nil => intro _; rfl
            | cons k own ih2 =>
              intro hk
              show (L2.wipe (σ.set i x) own).set k none = ((L2.wipe σ own).set k none).set i x
              rw [ih2 (fun z => hk (List.mem_cons_of_mem _ z)), List.set_comm _ _ (fun z => hk (by rw [z]; exact List.mem_cons_self))]
          rw [comm σ own hm, List.set_set]
        · exact absurd h hm
  have wsets : ∀ (is own : List Nat) (vs : List V) (σ : L2.St), (∀ i ∈ is, i ∈ own) → L2.wipe (setsV is vs σ) own = L2.wipe σ own := by
    intro is
    induction is with
    | nil => intro own vs σ _; cases vs <;> rfl
    | cons i is ih =>
      intro own vs σ h
      cases vs with
      | nil => rfl
      | cons v vs =>
        show L2.wipe (setsV is vs (σ.set i (some v))) own = _
        rw [ih own vs _ fun j hj => h j (List.mem_cons_of_mem _ hj), wset σ own i _ (h i List.mem_cons_self)]
  have ww : ∀ (σ : L2.St) (own : List Nat), L2.wipe (L2.wipe σ own) own = L2.wipe σ own := by
    intro σ own
    have gen : ∀ (is own : List Nat) (σ : L2.St), (∀ i ∈ is, i ∈ own) → L2.wipe (L2.wipe σ is) own = L2.wipe σ own := by
      intro is
      induction is with
      | nil => intro own σ _; rfl
      | cons i is ih =>
        intro own σ h
        show L2.wipe ((L2.wipe σ is).set i none) own = _
        rw [wset _ own i _ (h i List.mem_cons_self), ih own σ fun j hj => h j (List.mem_cons_of_mem _ hj)]
    exact gen own own σ fun _ h => h
  have many : ∀ is : List Nat, (∀ i ∈ is, i ∈ tg) → bindTs is d (wipeE ρ tg) = some ρ' → gTup K is.length (gNames is) v (L2.wipe σ tg) W.H Q := fun is hi h => by
    cases d with
    | tup ds =>
      have h' : (if ds.length = is.length then some (sets is ds (wipeE ρ tg)) else none) = some ρ' := h
      by_cases hl : ds.length = is.length
      · rw [if_pos hl] at h'
        cases h'
        cases r with | tup hs z r =>
        rename_i ad xs
        have hx : xs.length = is.length := by rw [← r.length]; exact hl
        exact ⟨ad, xs, rfl, hs.t, hx, gNames_of is xs _ W.H Q hx (q _ (a.sets r) (by rw [wsets is tg xs _ hi, ww]))⟩
      · rw [if_neg hl] at h'; cases h'
    | pr d1 d2 =>
      have h' : (if is.length = 2 then some (sets is [d1, d2] (wipeE ρ tg)) else none) = some ρ' := h
      by_cases hl : is.length = 2
      · rw [if_pos hl] at h'
        cases h'
        cases r with | @pr ad v1 v2 _ _ hs o1 o2 r1 r2 =>
        have r : RpL K W [d1, d2] [v1, v2] := .cons o1 r1 (.cons o2 r2 .nil)
        exact ⟨ad, [v1, v2], rfl, hs, hl.symm, gNames_of is _ _ W.H Q hl.symm (q _ (a.sets r) (by rw [wsets is tg _ _ hi, ww]))⟩
      · rw [if_neg hl] at h'; cases h'
    | _ => cases h
  match tg, h, many, a, q, wset, ww with
  | [], h, many, _, _, _, _ => exact many [] (fun _ z => z) h
  | [i], h, _, a, q, wset, ww =>
    cases h
    exact q _ (a.set ok r) (by rw [wset _ [i] i _ List.mem_cons_self, ww])
  | i :: j :: is, h, many, _, _, _, _ => exact many (i :: j :: is) (fun _ z => z) h

structure Nx2 (W W' : Wd) : Prop where
  kp : ∀ b o, W.H b = some o → ¬ W.F b → W'.H b = some o
  tp : ∀ b xs, W.H b = some (.tup xs) → W'.H b = some (.tup xs)
  fz : ∀ b o u, W.H b = some (.frz o u) → W'.H b = some (.frz o u)
  pre : W.as <+: W'.as
  fN : ∀ b, W'.F b → W.F b ∨ W.H b = none
theorem Nxt.two {W W' : Wd} (n : Nxt W W') (hF : ∀ a ∈ W.as, W.F a) : Nx2 W W' := ⟨fun b o h f => n.kp b o h fun z => f (hF b z), n.tp, n.fz, n.pre, n.fN⟩
theorem Nx2.refl {W : Wd} : Nx2 W W := ⟨fun _ _ h _ => h, fun _ _ h => h, fun _ _ _ h => h, List.prefix_refl _, fun _ h => .inl h⟩
theorem Nx2.trans {W W1 W2 : Wd} (a : Nx2 W W1) (b : Nx2 W1 W2) : Nx2 W W2 where
  kp := fun x o h f => b.kp x o (a.kp x o h f) fun z => (a.fN x z).elim f fun q => by rw [h] at q; cases q
  tp := fun x xs h => b.tp x xs (a.tp x xs h)
  fz := fun x o u h => b.fz x o u (a.fz x o u h)
  pre := a.pre.trans b.pre
  fN := fun x h => by
    rcases b.fN x h with z | z
    · exact a.fN x z
    · by_cases hf : W.F x
      · exact .inl hf
      · cases q : W.H x with
        | none => exact .inr rfl
        | some o => rw [a.kp x o q hf] at z; cases z
section
variable {K : PySem.W.Frag} {W W1 : Wd}
theorem Nx2.rd (n : Nx2 W W1) {a : Addr} {xs : List V} (h : Rd W.H a (.lst xs)) (nf : ¬ W.F a) : Rd W1.H a (.lst xs) ∧ ¬ W1.F a := by
  have ht : W.H a ≠ none := Rd.def_ h
  refine ⟨?_, fun z => (n.fN a z).elim nf ht⟩
  rcases h with h | ⟨o, h⟩
  · exact .inl (n.kp a _ h nf)
  · exact .inr ⟨o, n.fz a _ _ h⟩
theorem Nx2.sqT (n : Nx2 W W1) {a : Addr} {xs : List V} (h : SqT K W.H a xs) : SqT K W1.H a xs := by
  rcases h with (h | ⟨o, h⟩) | h
  · exact .inl (.inl (n.tp _ _ h))
  · exact .inl (.inr ⟨o, n.fz _ _ _ h⟩)
  · exact .inr h
theorem Nx2.sqX (n : Nx2 W W1) {a : Addr} {xs : List V} (h : SqX K W.H a xs) : SqX K W1.H a xs := by
  rcases h with ⟨o, d, h⟩ | h
  · exact .inl ⟨o, d, n.fz _ _ _ h⟩
  · exact .inr h
mutual
theorem Nx2.rp (n : Nx2 W W1) : ∀ {d : D} {v : V}, d.ok = true → Rp K W d v → Rp K W1 d v
  | _, _, _, .non => .non
  | _, _, _, .bl b => .bl b
  | _, _, _, .int i => .int i
  | _, _, _, .str s h z => .str s h z
  | _, _, _, .tup h z r => .tup (n.sqX h) z (Nx2.rpL n r)
  | _, _, _, .pr h o1 o2 r1 r2 => .pr (n.sqT h) o1 o2 (Nx2.rp n o1 r1) (Nx2.rp n o2 r2)
  | _, _, _, .lst h nf z r => let ⟨a, b⟩ := n.rd h nf; .lst a b z (Nx2.rpL n r)
  | _, _, ok, .own h f na z r => by cases ok
  | _, _, _, .ref h => .ref (by
      obtain ⟨t, e⟩ := n.pre
      rw [← e, List.getElem?_append_left (List.getElem?_eq_some_iff.mp h).1]; exact h)
theorem Nx2.rpL (n : Nx2 W W1) : ∀ {ds : List D} {vs : List V}, RpL K W ds vs → RpL K W1 ds vs
  | _, _, .nil => .nil
  | _, _, .cons o h r => .cons o (Nx2.rp n o h) (Nx2.rpL n r)
end
end

/-- the iterator yields these, from this world on -/
def Yl (K : PySem.W.Frag) (W : Wd) (J : It) (ds : List D) : Prop := ∀ (W' : Wd) (s' : Store), Nx2 W W' → StOk K W' s' →
  (∀ (i : Nat) d, ds[i]? = some d → J.go i W'.H ∧ ∀ v H'', J.yld i W'.H v H'' → ∃ W'', W''.H = H'' ∧ Nxt W' W'' ∧ StOk K W'' s' ∧ W''.as = W'.as ∧ W''.F = W'.F ∧ Rp K W'' d v) ∧ J.stop ds.length W'.H
def Oks (ds : List D) : Prop := ∀ d ∈ ds, d.ok = true
def tI (K : PySem.W.Frag) (cv : Nat → Value) (wx : WX) (f : Env → M (List D)) : TI := fun σ H R => ∃ ρ s W0 W, W.H = H ∧ At K σ ρ s W0 W ∧ Aft K cv W σ wx (f ρ s) fun ds W' _ => ∀ J, Yl K W' J ds → Oks ds → ds.length ≤ lim → R J W'.H
abbrev EvI (X : Cx) (cv : Nat → Value) (wx : WX) (tg e : Expr) (f : Env → M (List D)) : Prop := PI X tg e (tI X.K cv wx f)
theorem PI.imp {X : Cx} {tg e : Expr} {t t' : TI} (h : PI X tg e t) (i : ∀ σ H Q, t' σ H Q → t σ H Q) : PI X tg e t' := ⟨fun pins s σ H Q I q => h.run pins s σ H Q I (i σ H Q q)⟩
theorem pi_or {X : Cx} {tg e : Expr} {t t' : TI} (h : PI X tg e t) (h' : PI X tg e t') : PI X tg e fun σ H R => t σ H R ∨ t' σ H R := ⟨fun pins s σ H Q I q => q.elim (h.run pins s σ H Q I) (h'.run pins s σ H Q I)⟩
theorem RpL.oks {K : PySem.W.Frag} {W : Wd} : ∀ {ds : List D} {vs : List V}, RpL K W ds vs → Oks ds
  | _, _, .nil => fun _ h => nomatch h
  | _, _, .cons o _ r => fun d h => (List.mem_cons.mp h).elim (fun z => by rw [z]; exact o) (RpL.oks r d)
section
variable {X : Cx} {cv : Nat → Value} {wx : WX} {a b c tg : Expr} {fa fb fc : Env → M D} {pos : Pos}
theorem yl_list {K : PySem.W.Frag} {W : Wd} {a : Addr} {xs : List V} {ds : List D} (h : Rd W.H a (.lst xs)) (nf : ¬ W.F a) (r : RpL K W ds xs) : Yl K W (Itl K a) ds := by
  intro W' s' n st
  have h' : SqL K W'.H a xs := .inl (n.rd h nf).1
  have r' := n.rpL r
  refine ⟨fun i d e => ?_, ⟨xs, h', by rw [r.length]; exact Nat.le_refl _⟩⟩
  obtain ⟨v, e1, _, rv⟩ := r'.get e
  refine ⟨⟨xs, v, h', e1⟩, fun u H'' ⟨e2, e3⟩ => ⟨W', e2.symm, Nxt.refl, st, rfl, rfl, ?_⟩⟩
  have := e3 xs h'
  rw [e1] at this; cases this
  exact rv
theorem yl_tup {K : PySem.W.Frag} {W : Wd} {a : Addr} {xs : List V} {ds : List D} (h : SqT K W.H a xs) (r : RpL K W ds xs) : Yl K W (Itt K a) ds := by
  intro W' s' n st
  have h' : SqT K W'.H a xs := n.sqT h
  have r' := n.rpL r
  refine ⟨fun i d e => ?_, ⟨xs, h', by rw [r.length]; exact Nat.le_refl _⟩⟩
  obtain ⟨v, e1, _, rv⟩ := r'.get e
  refine ⟨⟨xs, v, h', e1⟩, fun u H'' ⟨e2, e3⟩ => ⟨W', e2.symm, Nxt.refl, st, rfl, rfl, ?_⟩⟩
  have := e3 xs h'
  rw [e1] at this; cases this
  exact rv
theorem yl_str {K : PySem.W.Frag} {W : Wd} {t : List Nat} (h : t.all (· < 0x110000) = true) : Yl K W (Its (S t)) (t.map fun c => D.str [c]) := by
  intro W' s' n st
  have hsz : (S t).cps.size = t.length := by simp
  refine ⟨fun i d e => ?_, ?_⟩
  · rw [List.getElem?_map] at e
    cases e1 : t[i]? with
    | none => rw [e1] at e; cases e
    | some c =>
      rw [e1] at e
      cases e
      have hl : i < t.length := (List.getElem?_eq_some_iff.mp e1).1
      refine ⟨by show i < (S t).cps.size; rw [hsz]; exact hl, fun u H'' ⟨e2, c', e3, e4⟩ => ⟨W', e2.symm, Nxt.refl, st, rfl, rfl, ?_⟩⟩
      have e5 : (S t).cps[i]? = some c := by simpa using e1
      rw [e5] at e3; cases e3
      rw [e4]
      refine .str [c] ?_ (by show 1 ≤ lim; decide)
      have := List.all_eq_true.mp h c (List.mem_of_getElem? e1)
      simpa using this
  · show (S t).cps.size ≤ _
    rw [hsz, List.length_map]
    exact Nat.le_refl _
theorem yl_rng {K : PySem.W.Frag} {W : Wd} (a b : Int) : Yl K W (Itr a (b - a).toNat) (rngL a b) := by
  intro W' s' n st
  have hl : (rngL a b).length = (b - a).toNat := by unfold rngL; rw [List.length_map, List.length_range]
  refine ⟨fun i d e => ?_, by show (b - a).toNat ≤ _; rw [hl]; exact Nat.le_refl _⟩
  have hi : i < (b - a).toNat := by rw [← hl]; exact (List.getElem?_eq_some_iff.mp e).1
  have e' : d = .int (a + i) := by
    unfold rngL at e
    rw [List.getElem?_map, List.getElem?_range hi] at e
    exact (Option.some.inj e).symm
  subst e'
  refine ⟨hi, fun u H'' ⟨e2, e3⟩ => ⟨W', e2.symm, Nxt.refl, st, rfl, rfl, ?_⟩⟩
  rw [e3]
  exact .int _
theorem i_val (ha : EvE X cv wx a fa) : EvI X cv wx tg a fun ρ => bnd (fa ρ) fun x => ofO (itemsOf x) := by
  refine PI.imp (pi_or (pi_list ha) (pi_or (pi_tup ha) (pi_str ha))) fun σ H Q ⟨ρ, s, W0, W, e, at_, h⟩ => ?_
  have h0 := h.bnd
  cases q : fa ρ s with
  | none => rw [q] at h0; exact h0.elim
  | some r =>
    obtain ⟨r, s'⟩ := r
    cases r with
    | err ex =>
      rw [q] at h0
      refine .inl ⟨ρ, s, W0, W, e, at_, ?_⟩
      rw [q]
      exact h0
    | ok x =>
      rw [q] at h0
      cases x with
      | lst l =>
        refine .inl ⟨ρ, s, W0, W, e, at_, ?_⟩
        rw [q]
        intro W1 n1 st1 v rv
        have h2 := (h0 W1 n1 st1) W1 Nxt.refl st1
        cases rv with | lst hs nf z r =>
        exact ⟨_, rfl, ⟨_, .inl hs⟩, h2 _ (yl_list hs nf r) r.oks z⟩
      | tup l =>
        refine .inr (.inl ⟨ρ, s, W0, W, e, at_, ?_⟩)
        rw [q]
        intro W1 n1 st1 v rv
        have h2 := (h0 W1 n1 st1) W1 Nxt.refl st1
        cases rv with | tup hs z r =>
        exact ⟨_, rfl, ⟨_, hs.t⟩, h2 _ (yl_tup hs.t r) r.oks z⟩
      | str t =>
        refine .inr (.inr ⟨ρ, s, W0, W, e, at_, ?_⟩)
        rw [q]
        intro W1 n1 st1 v rv
        have h2 := (h0 W1 n1 st1) W1 Nxt.refl st1
        cases rv with | str _ hs z =>
        refine ⟨_, rfl, h2 _ (yl_str hs) (fun d hd => ?_) (by rw [List.length_map]; exact z)⟩
        obtain ⟨c, _, rfl⟩ := List.mem_map.mp hd
        rfl
      | _ =>
        refine .inl ⟨ρ, s, W0, W, e, at_, ?_⟩
        rw [q]
        exact fun W1 n1 st1 v rv => ((h0 W1 n1 st1) : False).elim
end
end Ev

namespace Ev
open PySem PySem.Spec PyProof.Rows L2
open SX (S S_cat S_len S_inj S_tl)
section
variable {X : Cx} {cv : Nat → Value} {wx : WX} {a b c tg elt : Expr} {fa fb fc fe : Env → M D} {fl fi : Env → M (List D)} {pos p : Pos}
theorem rngL_len (a b : Int) : (rngL a b).length = (b - a).toNat := by unfold rngL; rw [List.length_map, List.length_range]
theorem rngL_oks (a b : Int) : Oks (rngL a b) := fun d h => by
  unfold rngL at h
  obtain ⟨_, _, rfl⟩ := List.mem_map.mp h
  rfl
theorem i_rng1 (hg : Gl X "range") (hm : X.mg "range" = none) (hs : starEach [a] X.env = (false, eval a X.env) :: starEach [] X.env) (ha : EvE X cv wx a fa) :
    EvI X cv wx tg (.Call (.Name "range" p) [a] [] pos) fun ρ => bnd (fa ρ) rng1Of := by
  refine PI.imp (pi_range1 hg hm (pa_cons ha pa_nil hs) hs) fun σ H Q ⟨ρ, s, W0, W, e, at_, h⟩ => ?_
  refine ⟨ρ, s, W0, W, e, at_, h.bnd.mono fun x W1 s1 n1 st1 h1 u ru => ?_⟩
  cases x with
  | int i =>
    have h1' : Aft X.K cv W1 σ wx ((if rngOk i then pur (rngL 0 i) else non) s1) fun ds W' _ => ∀ J, Yl X.K W' J ds → Oks ds → ds.length ≤ lim → Q J W'.H := h1
    by_cases hi : rngOk i = true
    · rw [if_pos hi] at h1'
      unfold rngOk at hi
      have hi' := of_decide_eq_true hi
      cases ru
      refine ⟨i, rfl, by omega, by omega, ?_⟩
      have q := h1'.pur st1
      have e0 : i.toNat = (i - 0).toNat := by rw [Int.sub_zero]
      rw [e0]
      exact q _ (yl_rng 0 i) (rngL_oks 0 i) (by rw [rngL_len]; show _ ≤ 16777216; omega)
    · rw [if_neg hi] at h1'; exact h1'.elim
  | _ => exact (h1 : False).elim
theorem i_rng2 (hg : Gl X "range") (hm : X.mg "range" = none) (hs : starEach [a, b] X.env = (false, eval a X.env) :: starEach [b] X.env) (hs2 : starEach [b] X.env = (false, eval b X.env) :: starEach [] X.env) (ha : EvE X cv wx a fa) (hb : EvE X cv wx b fb) :
    EvI X cv wx tg (.Call (.Name "range" p) [a, b] [] pos) fun ρ => bnd (fa ρ) fun x => bnd (asOk x) fun _ => bnd (fb ρ) fun y => rng2Of x y := by
  refine PI.imp (pi_range2 hg hm (pa_cons ha (pa_cons hb pa_nil hs2) hs) (by rw [hs, hs2] <;> rfl) hs2) fun σ H Q ⟨ρ, s, W0, W, e, at_, h⟩ => ?_
  refine ⟨ρ, s, W0, W, e, at_, h.bnd.mono fun x W1 s1 n1 st1 h1 u ru => ?_⟩
  obtain ⟨ok, h2⟩ := asOk_inv h1.bnd
  have h3 := h2 W1 Nxt.refl st1
  refine ⟨ρ, s1, W0, W1, rfl, at_.next n1 st1, h3.bnd.mono fun y W2 s2 n2 st2 h4 v rv => ?_⟩
  cases x with
  | int i =>
    cases y with
    | int j =>
      have h1' : Aft X.K cv W2 σ wx ((if rngOk i && (rngOk j && rngOk (j - i)) then pur (rngL i j) else non) s2) fun ds W' _ => ∀ J, Yl X.K W' J ds → Oks ds → ds.length ≤ lim → Q J W'.H := h4
      by_cases hi : (rngOk i && (rngOk j && rngOk (j - i))) = true
      · rw [if_pos hi] at h1'
        rw [Bool.and_eq_true, Bool.and_eq_true] at hi
        unfold rngOk at hi
        obtain ⟨ha', hb', hc'⟩ := hi
        have ha' := of_decide_eq_true ha'
        have hb' := of_decide_eq_true hb'
        have hc' := of_decide_eq_true hc'
        cases ru
        cases rv
        refine ⟨i, j, rfl, ⟨by omega, by omega, by omega, by omega⟩, ?_⟩
        exact (h1'.pur st2) _ (yl_rng i j) (rngL_oks i j) (by rw [rngL_len]; show _ ≤ 16777216; omega)
      · rw [if_neg hi] at h1'; exact h1'.elim
    | _ => exact (h4 : False).elim
  | _ => exact (h4 : False).elim
theorem pair_new {K : PySem.W.Frag} {W W' : Wd} {s : Store} {d e : D} {u v : V} {T : Addr} (st : StOk K W s) (ho : d.ok = true) (hd : Rp K W d u) (he' : e.ok = true) (he : Rp K W e v) (hT : W.H T = none) : ∃ W'', W''.H = upd W.H T (.tup [u, v]) ∧ Nxt W W'' ∧ StOk K W'' s ∧ W''.as = W.as ∧ W''.F = W.F ∧ Rp K W'' (.pr d e) (.ref T) :=
  ⟨W.new T (.tup [u, v]), rfl, Nxt.new st hT, st.new hT, rfl, rfl, .pr (.inl (.inl upd_same)) ho he' ((Nxt.new st hT).rp st.inF hd) ((Nxt.new st hT).rp st.inF he)⟩
theorem zip_get {l m : List D} {i : Nat} {d : D} (h : (zipL l m)[i]? = some d) : ∃ x y, l[i]? = some x ∧ m[i]? = some y ∧ d = .pr x y := by
  unfold zipL at h
  rw [List.getElem?_map] at h
  cases e : (l.zip m)[i]? with
  | none => rw [e] at h; cases h
  | some p =>
    rw [e] at h
    cases h
    obtain ⟨h1, h2⟩ := List.getElem?_zip_eq_some.mp e
    exact ⟨p.1, p.2, h1, h2, rfl⟩
theorem zip_len (l m : List D) : (zipL l m).length = min l.length m.length := by unfold zipL; rw [List.length_map, List.length_zip]
theorem yl_zipL {K : PySem.W.Frag} {W : Wd} {a b : Addr} {xs ys : List V} {ds es : List D} (h1 : Rd W.H a (.lst xs)) (n1 : ¬ W.F a) (h2 : Rd W.H b (.lst ys)) (n2 : ¬ W.F b) (r1 : RpL K W ds xs) (r2 : RpL K W es ys) : Yl K W (Itz K a b) (zipL ds es) := by
  intro W' s' n st
  have g1 : SqL K W'.H a xs := .inl (n.rd h1 n1).1
  have g2 : SqL K W'.H b ys := .inl (n.rd h2 n2).1
  have r1' := n.rpL r1
  have r2' := n.rpL r2
  refine ⟨fun i d e => ?_, ⟨xs, ys, g1, g2, ?_⟩⟩
  · obtain ⟨x, y, e1, e2, rfl⟩ := zip_get e
    obtain ⟨u, eu, ou, ru⟩ := r1'.get e1
    obtain ⟨v, ev, ov, rv⟩ := r2'.get e2
    refine ⟨⟨xs, ys, u, v, g1, g2, eu, ev⟩, fun w H'' ⟨T, x', y', e3, e4, e5, e6, e7⟩ => ?_⟩
    have ex := e6 xs g1
    have ey := e7 ys g2
    rw [eu] at ex; cases ex
    rw [ev] at ey; cases ey
    subst e3
    obtain ⟨W'', q1, q2, q3, q4, q5, q6⟩ := pair_new (W' := W') st ou ru ov rv e4
    exact ⟨W'', q1.trans e5.symm, q2, q3, q4, q5, q6⟩
  · rw [zip_len, r1.length, r2.length]; omega
theorem yl_zipT {K : PySem.W.Frag} {W : Wd} {a b : Addr} {xs ys : List V} {ds es : List D} (h1 : SqT K W.H a xs) (h2 : SqT K W.H b ys) (r1 : RpL K W ds xs) (r2 : RpL K W es ys) : Yl K W (RZ.ItzT K a b) (zipL ds es) := by
  intro W' s' n st
  have g1 : SqT K W'.H a xs := n.sqT h1
  have g2 : SqT K W'.H b ys := n.sqT h2
  have r1' := n.rpL r1
  have r2' := n.rpL r2
  refine ⟨fun i d e => ?_, ⟨xs, ys, g1, g2, ?_⟩⟩
  · obtain ⟨x, y, e1, e2, rfl⟩ := zip_get e
    obtain ⟨u, eu, ou, ru⟩ := r1'.get e1
    obtain ⟨v, ev, ov, rv⟩ := r2'.get e2
    refine ⟨⟨xs, ys, u, v, g1, g2, eu, ev⟩, fun w H'' ⟨T, x', y', e3, e4, e5, e6, e7⟩ => ?_⟩
    have ex := e6 xs g1
    have ey := e7 ys g2
    rw [eu] at ex; cases ex
    rw [ev] at ey; cases ey
    subst e3
    obtain ⟨W'', q1, q2, q3, q4, q5, q6⟩ := pair_new (W' := W') st ou ru ov rv e4
    exact ⟨W'', q1.trans e5.symm, q2, q3, q4, q5, q6⟩
  · rw [zip_len, r1.length, r2.length]; omega
theorem i_zip {elts : List Expr} {kk : Nat} {tpos : Pos} (hg : Gl X "zip") (hm : X.mg "zip" = none) (hs : starEach [a, b] X.env = (false, eval a X.env) :: starEach [b] X.env) (hs2 : starEach [b] X.env = (false, eval b X.env) :: starEach [] X.env) (ha : EvE X cv wx a fa) (hb : EvE X cv wx b fb) :
    EvI X cv wx (.Tuple elts kk tpos) (.Call (.Name "zip" p) [a, b] [] pos) fun ρ => bnd (fa ρ) fun x => bnd (asOk x) fun _ => bnd (fb ρ) fun y => zipOf x y := by
  refine PI.imp (RZ.pi_zipA hg hm (pa_cons ha (pa_cons hb pa_nil hs2) hs) hs (by rw [hs2] <;> rfl)) fun σ H Q ⟨ρ, s, W0, W, e, at_, h⟩ => ?_
  refine ⟨ρ, s, W0, W, e, at_, h.bnd.mono fun x W1 s1 n1 st1 h1 u ru => ?_⟩
  obtain ⟨ok, h2⟩ := asOk_inv h1.bnd
  have h3 := h2 W1 Nxt.refl st1
  refine ⟨ρ, s1, W0, W1, rfl, at_.next n1 st1, h3.bnd.mono fun y W2 s2 n2 st2 h4 v rv => ?_⟩
  have ru' := n2.rp st1.inF ru
  have oks : ∀ l m : List D, Oks (zipL l m) := fun l m d hd => by
    unfold zipL at hd
    obtain ⟨_, _, rfl⟩ := List.mem_map.mp hd
    rfl
  cases x with
  | tup l =>
    cases y with
    | tup m =>
      have h5 := (show Aft X.K cv W2 σ wx (pur (zipL l m) s2) _ from h4).pur st2
      cases ru' with | tup g1 z1 r1 =>
      cases rv with | tup g2 z2 r2 =>
      exact ⟨_, _, _, _, rfl, .inr ⟨g1.t, g2.t, h5 _ (yl_zipT g1.t g2.t r1 r2) (oks l m) (by rw [zip_len]; omega)⟩⟩
    | _ => exact (h4 : False).elim
  | lst l =>
    cases y with
    | lst m =>
      have h5 := (show Aft X.K cv W2 σ wx (pur (zipL l m) s2) _ from h4).pur st2
      cases ru' with | lst g1 f1 z1 r1 =>
      cases rv with | lst g2 f2 z2 r2 =>
      exact ⟨_, _, _, _, rfl, .inl ⟨.inl g1, .inl g2, h5 _ (yl_zipL g1 f1 g2 f2 r1 r2) (oks l m) (by rw [zip_len]; omega)⟩⟩
    | _ => exact (h4 : False).elim
  | _ =>
    cases y <;> exact (h4 : False).elim

/-- the turns of compL, from a place on -/
theorem compL_cons {f : D → M (Option D)} {d : D} {ds : List D} {s : Store} {r : List D} {s' : Store} (h : noE (compL f (d :: ds)) s = some (.ok r, s')) :
    ∃ o s1 r', f d s = some (.ok o, s1) ∧ noE (compL f ds) s1 = some (.ok r', s') ∧ r = (match o with | some x => x :: r' | none => r') := by
  unfold noE at h
  cases q : compL f (d :: ds) s with
  | none => rw [q] at h; cases h
  | some z =>
    obtain ⟨z, s2⟩ := z
    rw [q] at h
    cases z with
    | err e => cases h
    | ok r2 =>
      cases h
      unfold compL at q
      obtain ⟨o, s1, q1, q2⟩ := bnd_inv q
      obtain ⟨r', s3, q3, q4⟩ := bnd_inv q2
      cases q4
      exact ⟨o, s1, r', q1, by unfold noE; rw [q3], rfl⟩
theorem compL_len {f : D → M (Option D)} : ∀ {ds : List D} {s : Store} {r : List D} {s' : Store}, noE (compL f ds) s = some (.ok r, s') → r.length ≤ ds.length
  | [], s, r, s', h => by
    have : some (Res.ok ([] : List D), s) = some (.ok r, s') := h
    cases this
    exact Nat.le_refl _
  | d :: ds, s, r, s', h => by
    obtain ⟨o, s1, r', _, h2, rfl⟩ := compL_cons h
    have := compL_len h2
    cases o with
    | none => rw [List.length_cons]; exact Nat.le_succ_of_le this
    | some x => rw [List.length_cons, List.length_cons]; exact Nat.succ_le_succ this
/-- what a comprehension computes -/
def fComp (fi : Env → M (List D)) (tgs : List Nat) (ft : Env → M Bool) (fe : Env → M D) : Env → M (List D) := fun ρ => bnd (fi ρ) fun ds => noE (compL (fun d => bnd (ofO (bindT tgs d (wipeE ρ tgs))) fun ρ' => bnd (ft ρ') fun k => if k then bnd (fe ρ') fun x => bnd (asOk x) fun y => pur (some y) else pur none) ds)
theorem comp_read {tgs : List Nat} {ft : Env → M Bool} {own : List (Str × Nat)} (hown : own.map (·.2) = tgs) (nd : tgs.Nodup) :
    ∀ σ H Q, tN X.K cv wx (fComp fi tgs ft fe) σ H Q →
      tLc (tI X.K cv wx fi) (gOf X.K tgs) (tT X.K cv (fun _ _ _ _ => False) ft) (tE X.K cv (fun _ _ _ _ => False) fe) (own.map (·.2)) σ H Q := by
  intro σ H Q ⟨ρ, s, W0, W, e, at_, h⟩
  refine ⟨ρ, s, W0, W, e, at_, h.bnd.mono fun ds W1 s1 n1 st1 h1 J hJ oks hz => ?_⟩
  rw [hown]
  generalize hf : (fun d => bnd (ofO (bindT tgs d (wipeE ρ tgs))) fun ρ' => bnd (ft ρ') fun k => if k then bnd (fe ρ') fun x => bnd (asOk x) fun y => pur (some y) else pur none) = f at h1
  intro Dd hD
  -- the list that grows is nobody's: it may be changed
  cases hq : noE (compL f ds) s1 with
  | none => rw [hq] at h1; exact h1.elim
  | some z =>
    obtain ⟨z, sF⟩ := z
    cases z with
    | err e => 
      exfalso
      unfold noE at hq
      split at hq
      · cases hq
      · rename_i hne
        exact hne _ _ hq
    | ok rF =>
      rw [hq] at h1
      have hrl := compL_len hq
      -- the invariant
      refine ⟨fun i m Hi => m = ds.length - i ∧ i ≤ ds.length ∧ ∃ (Wi : Wd) (si : Store) (acc rr : List D) (vs : List V), Wi.H Dd = none ∧ Hi = upd Wi.H Dd (.lst vs) ∧ Nxt W1 Wi ∧ StOk X.K Wi si ∧ RpL X.K Wi acc vs ∧ acc.length ≤ i ∧ noE (compL f (ds.drop i)) si = some (.ok rr, sF) ∧ rF = acc ++ rr, ⟨ds.length, by simp, Nat.zero_le _, W1, s1, [], rF, [], hD, rfl, Nxt.refl, st1, .nil, Nat.le_refl _, by simpa using hq, by simp⟩, ?_⟩
      rintro i m Hi ⟨rfl, hile, Wi, si, acc, rr, vs, hDi, rfl, ni, sti, racc, hacc, hcomp, hsum⟩
      -- the world in which the list stands, tracked but not to be read
      have nD : Nxt Wi (Wi.new Dd (.lst vs)) := Nxt.new sti hDi
      have stD : StOk X.K (Wi.new Dd (.lst vs)) si := sti.new hDi
      by_cases hlt : i < ds.length
      · have hd : ds[i]? = some ds[i] := List.getElem?_eq_getElem hlt
        have hdrop : ds.drop i = ds[i] :: ds.drop (i + 1) := List.drop_eq_getElem_cons hlt
        rw [hdrop] at hcomp
        obtain ⟨o, s2, r', hfd, hrest, hr'⟩ := compL_cons hcomp
        -- D is among what may be changed, so that nothing reads it
        let WD : Wd := { H := upd Wi.H Dd (.lst vs), as := Wi.as, F := fun b => Wi.F b ∨ b = Dd }
        have nWD : Nxt Wi WD := ⟨nD.kp, nD.tp, nD.fz, nD.pre, fun b hb => .inl hb, fun b hb => hb.elim .inl fun z => .inr (by rw [z]; exact hDi), nD.aN⟩
        have stWD : StOk X.K WD si := sti.next nWD rfl (fun b hb => by
          rcases hb with hb | rfl
          · have q := sti.tr b hb
            have : b ≠ Dd := fun z => q (by rw [z]; exact hDi)
            show upd Wi.H Dd (.lst vs) b ≠ none
            rw [upd_ne this]; exact q
          · show upd Wi.H b (.lst vs) b ≠ none
            rw [upd_same]; simp) fun b hb => by
            have q := sti.trk b hb
            have : b ≠ Dd := fun z => q (by rw [z]; exact hDi)
            show upd Wi.H Dd (.lst vs) b = _
            rw [upd_ne this]
        have nall : Nxt W1 WD := ni.trans nWD sti.trk
        obtain ⟨hJ1, _⟩ := hJ WD si (nall.two st1.inF) stWD
        obtain ⟨go, hyld⟩ := hJ1 i ds[i] hd
        refine .inr ⟨go, fun H' => ∃ (Wi' : Wd) (si' : Store) (acc' rr' : List D) (vs' : List V), Wi'.H Dd = none ∧ H' = upd Wi'.H Dd (.lst vs') ∧ Nxt W1 Wi' ∧ StOk X.K Wi' si' ∧ RpL X.K Wi' acc' vs' ∧ acc'.length ≤ i + 1 ∧ noE (compL f (ds.drop (i + 1))) si' = some (.ok rr', sF) ∧ rF = acc' ++ rr',
          fun H' hN' => ⟨ds.length - (i + 1), by omega, rfl, hlt, hN'⟩, fun x H' hy => ?_⟩
        obtain ⟨W2, e2, n2, st2, as2, F2, rx⟩ := hyld x H' hy
        subst e2
        -- back from a world with D to one without
        have back : ∀ (W3 : Wd) (s3 : Store), Nxt WD W3 → StOk X.K W3 s3 → ∃ W4 : Wd, W4.H Dd = none ∧ W3.H = upd W4.H Dd (.lst vs) ∧ Nxt W1 W4 ∧ StOk X.K W4 s3 ∧ ((∀ d v, d.ok = true → Rp X.K W3 d v → Rp X.K W4 d v) ∧ ∀ ds vs, RpL X.K W3 ds vs → RpL X.K W4 ds vs) ∧ W3.H Dd = some (.lst vs) := by
          intro W3 s3 n3 st3
          have hnot : Dd ∉ WD.as := fun z => sti.trk Dd z hDi
          have h3 : W3.H Dd = some (.lst vs) := n3.kp Dd _ upd_same hnot
          have hnot3 : Dd ∉ W3.as := fun z => (n3.aN Dd z).elim hnot fun q => by
            have : upd Wi.H Dd (.lst vs) Dd = none := q
            rw [upd_same] at this; cases this
          let W4 : Wd := { H := fun b => if b = Dd then none else W3.H b, as := W3.as, F := fun b => W3.F b ∧ b ≠ Dd }
          have hH4 : W4.H Dd = none := if_pos rfl
          have hne : ∀ b, b ≠ Dd → W4.H b = W3.H b := fun b hb => if_neg hb
          have eH : W3.H = upd W4.H Dd (.lst vs) := by
            funext b
            by_cases hb : b = Dd
            · rw [hb, upd_same]; exact h3
            · rw [upd_ne hb, hne b hb]
          have n13 : Nxt W1 W3 := nall.trans n3 stWD.trk
          have hD1 : W1.H Dd = none := hD
          have n14 : Nxt W1 W4 := by
            refine ⟨fun b o hb ha => ?_, fun b xs hb => ?_, fun b o u hb => ?_, n13.pre, fun b hb => ⟨n13.fF b hb, ?_⟩, fun b hb => n13.fN b hb.1, n13.aN⟩
            · rw [hne b (ne_of_none hb hD1)]; exact n13.kp b o hb ha
            · rw [hne b (ne_of_none hb hD1)]; exact n13.tp b xs hb
            · rw [hne b (ne_of_none hb hD1)]; exact n13.fz b o u hb
            · intro z
              rw [z] at hb
              exact st1.tr Dd hb hD1
          -- what stands in W3 and does not read D stands in W4
          have r34 : (∀ d v, d.ok = true → Rp X.K W3 d v → Rp X.K W4 d v) ∧ ∀ ds vs, RpL X.K W3 ds vs → RpL X.K W4 ds vs := by
            have hFD : W3.F Dd := n3.fF Dd (.inr rfl)
            have key : (∀ (d : D) (v : V) (h : Rp X.K W3 d v), d.ok = true → Rp X.K W4 d v) := by
              intro d v h
              refine @Rp.rec X.K W3 (fun d v _ => d.ok = true → Rp X.K W4 d v) (fun ds vs _ => RpL X.K W4 ds vs) ?_ ?_ ?_ ?_ ?_ ?_ ?_ ?_ ?_ ?_ ?_ d v h
              · intro _; exact .non
              · intro b _; exact .bl b
              · intro i _; exact .int i
              · intro s h1 h2 _; exact .str s h1 h2
              · intro a xs ds h1 z r ih _
                refine .tup ?_ z ih
                rcases h1 with ⟨ob, hd, h1⟩ | h1
                · exact .inl ⟨ob, hd, by rw [hne a (fun e => by rw [e, h3] at h1; cases h1)]; exact h1⟩
                · exact .inr h1
              · intro a u v d e h1 o1 o2 r1 r2 ih1 ih2 _
                refine .pr ?_ o1 o2 (ih1 o1) (ih2 o2)
                rcases h1 with (h1 | ⟨ob, h1⟩) | h1
                · exact .inl (.inl (by rw [hne a (fun e => by rw [e, h3] at h1; cases h1)]; exact h1))
                · exact .inl (.inr ⟨ob, by rw [hne a (fun e => by rw [e, h3] at h1; cases h1)]; exact h1⟩)
                · exact .inr h1
              · intro a xs ds h1 nf z r ih _
                have na : a ≠ Dd := fun e => nf (by rw [e]; exact hFD)
                refine .lst ?_ (fun q => nf q.1) z ih
                rcases h1 with h1 | ⟨ob, h1⟩
                · exact .inl (by rw [hne a na]; exact h1)
                · exact .inr ⟨ob, by rw [hne a na]; exact h1⟩
              · intro a xs ds h1 f na z r ih o; cases o
              · intro n a h1 _; exact .ref h1
              · exact .nil
              · intro d v ds vs o h1 r ih1 ih2; exact .cons o (ih1 o) ih2
            refine ⟨fun d v o h => key d v h o, fun ds => ?_⟩
            induction ds with
            | nil => intro vs h; cases h; exact .nil
            | cons d ds ih =>
              intro vs h
              cases h with | cons o h r =>
              exact .cons o (key d _ h o) (ih _ r)
          refine ⟨W4, hH4, eH, n14, ⟨st3.len, st3.nd, fun b hb => ⟨st3.inF b hb, fun z => hnot3 (by rw [← z]; exact hb)⟩, fun b hb => by rw [hne b hb.2]; exact st3.tr b hb.1, fun n c a h1 h2 => ?_, st3.tab⟩, r34, h3⟩
          have q := st3.cell n c a h1 h2
          have na : a ≠ Dd := fun z => hnot3 (by rw [← z]; exact List.mem_of_getElem? h2)
          obtain ⟨o, q1, q2⟩ := q
          exact ⟨o, by rw [hne a na]; exact q1, q2.imp (W1 := W4) (W := W3) (fun cc qq k1 k2 => ⟨k1, by rw [hne cc (fun e => by rw [e, h3] at k2; unfold LamX.CodeO at k2; cases k2)]; exact k2⟩) r34.2⟩
        -- the target, the test, the element
        have atD : At X.K σ ρ si W0 WD := ⟨at_.fr.next at_.st (n1.trans nall st1.trk) at_.st.trk, stWD⟩
        have atW := (At.next atD n2 st2).wipe tgs
        rw [← hf] at hfd
        have hfd' : bnd (ofO (bindT tgs ds[i] (wipeE ρ tgs))) (fun ρ' => bnd (ft ρ') fun k => if k then bnd (fe ρ') fun x => bnd (asOk x) fun y => pur (some y) else pur none) si = some (.ok o, s2) := hfd
        obtain ⟨ρ', sb, hb1, hb2⟩ := bnd_inv hfd'
        cases hbt : bindT tgs ds[i] (wipeE ρ tgs) with
        | none => rw [hbt] at hb1; cases hb1
        | some ρ'' =>
          rw [hbt] at hb1
          cases hb1
          obtain ⟨k, s3, hk1, hk2⟩ := bnd_inv hb2
          refine gOf_wipe atW (oks _ (List.getElem_mem hlt)) rx hbt nd fun σ2 at2 hw => ⟨hw, ρ', si, W0, W2, rfl, at2, ?_⟩
          rw [hk1]
          intro W3 n3 st3
          have n23 : Nxt WD W3 := n2.trans n3 st2.trk
          cases k with
          | true =>
            refine iteT ?_
            have hk2' : bnd (fe ρ') (fun x => bnd (asOk x) fun y => pur (some y)) s3 = some (.ok o, s2) := hk2
            obtain ⟨y, s4, hy1, hy2⟩ := bnd_inv hk2'
            obtain ⟨y', s5, hy3, hy4⟩ := bnd_inv hy2
            have hok : y.ok = true ∧ y' = y ∧ s5 = s4 := by
              unfold asOk at hy3
              by_cases e : y.ok = true
              · rw [if_pos e] at hy3; cases hy3; exact ⟨e, rfl, rfl⟩
              · rw [if_neg e] at hy3; cases hy3
            obtain ⟨hok, rfl, rfl⟩ := hok
            cases hy4
            refine ⟨ρ', s3, W0, W3, rfl, at2.next n3 st3, ?_⟩
            rw [hy1]
            intro W4 n4 st4 v rv
            have n24 : Nxt WD W4 := n23.trans n4 st3.trk
            obtain ⟨W5, g1, g2, g3, g4, g5, g6⟩ := back W4 s2 n24 st4
            have hlen : acc.length < lim ∨ lim ≤ acc.length := Nat.lt_or_ge _ _
            refine ⟨vs, g6, ?_, W5, s2, acc ++ [y'], r', vs ++ [v], g1, ?_, g3, g4, ?_, ?_, hrest, ?_⟩
            · rw [← lim_eq, ← racc.length]
              exact Nat.lt_of_le_of_lt hacc (Nat.lt_of_lt_of_le hlt hz)
            · rw [g2, upd_upd]
            · -- the old items: nothing of them reads D
              have rW4 : RpL X.K W4 acc vs := n24.rpL stWD.inF (nWD.rpL sti.inF racc)
              have rW5 : RpL X.K W5 acc vs := g5.2 _ _ rW4
              exact rW5.append (.cons hok (g5.1 _ _ hok rv) .nil)
            · rw [List.length_append]; simp; omega
            · rw [hsum, hr']; simp
          | false =>
            have hk2' : pur (none : Option D) s3 = some (.ok o, s2) := hk2
            cases hk2'
            refine iteF ?_
            obtain ⟨W5, g1, g2, g3, g4, g5, g6⟩ := back W3 s2 n23 st3
            exact ⟨W5, s2, acc, r', vs, g1, g2, g3, g4, g5.2 _ _ (n23.rpL stWD.inF (nWD.rpL sti.inF racc)), by omega, hrest, by rw [hsum, hr']⟩
      · have hi : i = ds.length := by omega
        subst hi
        have hnil : ds.drop ds.length = [] := List.drop_length
        rw [hnil] at hcomp
        have : some (Res.ok ([] : List D), si) = some (.ok rr, sF) := hcomp
        cases this
        rw [List.append_nil] at hsum
        subst hsum
        have stop := (hJ (Wi.new Dd (.lst vs)) sF ((ni.trans nD sti.trk).two st1.inF) stD).2
        exact .inl ⟨stop, h1 Wi ni sti vs Dd racc (Nat.le_trans hrl hz) hDi⟩
end
end Ev

namespace Ev
open PySem PySem.Spec PyProof.Rows L2
open SX (S S_cat S_len S_inj S_tl)
/-- the promise of a def that computes f -/
def spF (K : PySem.W.Frag) (cv : Nat → Value) (f : List D → M D) (n : Nat) : Sp := fun vs H Q E => vs.length = n ∧ ∃ ds s W, W.H = H ∧ StOk K W s ∧ RpL K W ds vs ∧
  Aft K cv W [] (fun c d _ H' => E c d H') (f ds s) fun d W' _ => ∀ v, Rp K W' d v → Q v W'.H
section
variable {X : Cx} {cv : Nat → Value} {wx : WX} {a b c tg elt : Expr} {fa fb fc fe : Env → M D} {fl fi : Env → M (List D)} {pos p : Pos} {es : List Expr}
/-- f(e, ..) of a def of the text -/
theorem e_call {k n : Nat} {f : Addr} {fd : FuncData} {ps : List Str} {x : Str} {g : List D → M D} (F : FnOk X.prog X.w X.K X.mg X.base (L2.CX X.prog X.w) k f fd ps (spF X.K cv g n)) (hr : Room k X.A) (hg : Gl X x) (hm : X.mg x = some (.ref f)) (hk : PySem.W.keepIn X.K (.ref f) = true) (hb : Binds X.K fd ps []) (tk : Takes X wx)
    (ha : EvA X cv wx (a :: es) fl) (hl : ∀ ρ s ds s', fl ρ s = some (.ok ds, s') → ds.length = n) (hdb : (x == ("__debug__" : Str)) = false) (he : starEach (a :: es) X.env = (false, eval a X.env) :: starEach es X.env) (hpl : (backTo pos (starEach es X.env)).any (·.1) = false) :
    EvE X cv wx (.Call (.Name x p) (a :: es) [] pos) fun ρ => bnd (fl ρ) fun ds => g ds := by
  refine PE.imp (pe_callS F hr hg hm hk hb (fun σ => passAt tk σ) ha hdb he hpl) fun σ H Q ⟨ρ, s, W0, W, e, at_, h⟩ => ?_
  refine ⟨ρ, s, W0, W, e, at_, ?_⟩
  have h0 := h.bnd
  cases q : fl ρ s with
  | none => rw [q] at h0; exact h0
  | some r =>
    obtain ⟨r, s'⟩ := r
    rw [q] at h0
    cases r with
    | err e => exact h0
    | ok ds =>
      intro W1 n1 st1 vs rvs
      have h1 : Aft X.K cv W1 σ wx (g ds s') fun d W' _ => ∀ v, Rp X.K W' d v → Q v W'.H := h0 W1 n1 st1
      refine ⟨by rw [← rvs.length]; exact hl _ _ _ _ q, ds, s', W1, rfl, st1, rvs, ?_⟩
      cases hh : g ds s' with
      | none => rw [hh] at h1; exact h1
      | some z =>
        obtain ⟨z, sz⟩ := z
        rw [hh] at h1
        cases z with
        | ok d => exact h1
        | err e => exact h1
theorem e_call0 {k : Nat} {f : Addr} {fd : FuncData} {ps : List Str} {x : Str} {g : List D → M D} {E : XK} (F : FnOk X.prog X.w X.K X.mg X.base (L2.CX X.prog X.w) k f fd ps (spF X.K cv g 0)) (hr : Room k X.A) (hg : Gl X x) (hm : X.mg x = some (.ref f)) (hk : PySem.W.keepIn X.K (.ref f) = true) (hb : Binds X.K fd ps []) (hx : Passes (L2.CX X.prog X.w) X E)
    (hdb : (x == ("__debug__" : Str)) = false) (hne : ∀ s e s', g [] s ≠ some (.err e, s')) :
    EvE X cv wx (.Call (.Name x p) [] [] pos) fun ρ => g [] := by
  refine PE.imp (pe_call0 F hr hg hm hk hb .nil hx hdb) fun σ H Q ⟨ρ, s, W0, W, e, at_, h⟩ => ?_
  have h : Aft X.K cv W σ wx (g [] s) fun d W' _ => ∀ v, Rp X.K W' d v → Q v W'.H := h
  refine ⟨rfl, [], s, W, e, at_.st, .nil, ?_⟩
  cases hh : g [] s with
  | none => rw [hh] at h; exact h
  | some z =>
    obtain ⟨z, sz⟩ := z
    rw [hh] at h
    cases z with
    | ok d => exact h
    | err e => exact absurd hh (hne _ _ _)
theorem e_chain {o p' : Bo} {op op' : CmpOp} {r r' : R2} (ho : OpR X (compareOp op) r) (ho' : OpR X (compareOp op') r') (hr : BopR X o r) (hr' : BopR X p' r') (hm : lastMarks [op, op'] [b, c] = false) (ha : EvE X cv wx a fa) (hb : EvE X cv wx b fb) (hc : EvE X cv wx c fc) :
    EvE X cv wx (.Compare a [op, op'] [b, c] pos) fun ρ => bnd (fa ρ) fun x => bnd (fb ρ) fun y => bnd (ofO (bop o x y)) fun t => bnd (asBl t) fun k =>
      if k then bnd (fc ρ) fun z => ofO (bop p' y z) else pur (.bl false) := by
  refine PE.imp (pe_chain ho ho' ha hb hc hm) fun σ H Q ⟨ρ, s, W0, W, e, at_, h⟩ => ?_
  refine ⟨ρ, s, W0, W, e, at_, h.bnd.mono fun x W1 s1 n1 st1 h1 u ru => ?_⟩
  refine ⟨ρ, s1, W0, W1, rfl, at_.next n1 st1, h1.bnd.mono fun y W2 s2 n2 st2 h2 v rv => ?_⟩
  obtain ⟨d, e2, h3⟩ := h2.bnd.ofO
  refine hr W2 s2 x y d u v _ st2 e2 (n2.rp st1.inF ru) rv fun W3 n3 st3 z rz => ?_
  obtain ⟨k, rfl, h4⟩ := asBl_inv (h3 W3 n3 st3).bnd
  cases rz
  have h5 := h4 W3 Nxt.refl st3
  refine ⟨k, rfl, ?_⟩
  cases k with
  | false => exact h5.pur st3 _ (.bl _)
  | true =>
    refine ⟨ρ, s2, W0, W3, rfl, (((at_.next n1 st1).next n2 st2).next n3 st3), (show Aft X.K cv W3 σ wx (bnd (fc ρ) (fun z => ofO (bop p' y z)) s2) _ from h5).bnd.mono fun z W4 s4 n4 st4 h6 w rw' => ?_⟩
    obtain ⟨d', e3, h7⟩ := h6.ofO
    exact hr' W4 s4 y z d' v w Q st4 e3 (n4.rp st3.inF (n3.rp st2.inF rv)) rw' fun W' n' st' z rz => h7 W' n' st' z rz
theorem t_chain {o p' : Bo} {op op' : CmpOp} {r r' : R2} (ho : OpR X (compareOp op) r) (ho' : OpR X (compareOp op') r') (hr : BopR X o r) (hr' : BopR X p' r') (hm : lastMarks [op, op'] [b, c] = false) (ha : EvE X cv wx a fa) (hb : EvE X cv wx b fb) (hc : EvE X cv wx c fc) :
    EvT X cv wx (.Compare a [op, op'] [b, c] pos) fun ρ => bnd (bnd (fa ρ) fun x => bnd (fb ρ) fun y => bnd (ofO (bop o x y)) fun t => bnd (asBl t) fun k =>
      if k then bnd (fc ρ) fun z => ofO (bop p' y z) else pur (.bl false)) asBl := by
  refine PT.imp (pt_chain ho ho' ha hb hc hm) fun σ H Q ⟨ρ, s, W0, W, e, at_, h⟩ => ?_
  simp only [bnd_assoc] at h
  refine ⟨ρ, s, W0, W, e, at_, h.bnd.mono fun x W1 s1 n1 st1 h1 u ru => ?_⟩
  refine ⟨ρ, s1, W0, W1, rfl, at_.next n1 st1, h1.bnd.mono fun y W2 s2 n2 st2 h2 v rv => ?_⟩
  obtain ⟨d, e2, h3⟩ := h2.bnd.ofO
  refine hr W2 s2 x y d u v _ st2 e2 (n2.rp st1.inF ru) rv fun W3 n3 st3 z rz => ?_
  obtain ⟨k, rfl, h4⟩ := asBl_inv (h3 W3 n3 st3).bnd
  cases rz
  have h5 := h4 W3 Nxt.refl st3
  refine ⟨k, rfl, ?_⟩
  cases k with
  | false =>
    obtain ⟨k, e9, h6⟩ := asBl_inv ((show Aft X.K cv W3 σ wx (bnd (pur (D.bl false)) asBl s2) _ from h5).bnd.pur st3)
    cases e9
    exact ⟨false, rfl, h6 W3 Nxt.refl st3⟩
  | true =>
    have h5' : Aft X.K cv W3 σ wx (bnd (bnd (fc ρ) fun z => ofO (bop p' y z)) asBl s2) _ := h5
    rw [bnd_assoc] at h5'
    refine ⟨ρ, s2, W0, W3, rfl, (((at_.next n1 st1).next n2 st2).next n3 st3), h5'.bnd.mono fun z W4 s4 n4 st4 h6 w rw' => ?_⟩
    obtain ⟨d', e3, h7⟩ := h6.bnd.ofO
    refine hr' W4 s4 y z d' v w _ st4 e3 (n4.rp st3.inF (n3.rp st2.inF rv)) rw' fun W' n' st' z rz => ?_
    obtain ⟨k, rfl, h8⟩ := asBl_inv (h7 W' n' st')
    cases rz
    exact ⟨k, rfl, h8 W' Nxt.refl st'⟩
theorem StOk.celNew {K : PySem.W.Frag} {W : Wd} {s : Store} {p : Addr} {c : Cell} {o : HO} (st : StOk K W s) (hp : W.H p = none) (r : CoOk K W c o) :
    Nxt W { H := upd W.H p o, as := W.as ++ [p], F := fun b => W.F b ∨ b = p } ∧ StOk K { H := upd W.H p o, as := W.as ++ [p], F := fun b => W.F b ∨ b = p } (s ++ [c]) := by
  have n0 : Nxt W { H := upd W.H p o, as := W.as ++ [p], F := fun b => W.F b ∨ b = p } :=
    ⟨(Nxt.new (o := o) st hp).kp, (Nxt.new (o := o) st hp).tp, (Nxt.new (o := o) st hp).fz, ⟨[p], rfl⟩, fun b hb => .inl hb, fun b hb => hb.elim .inl fun z => .inr (by rw [z]; exact hp), fun b hb => by
      rcases List.mem_append.mp hb with z | z
      · exact .inl z
      · exact .inr (by rw [List.mem_singleton.mp z]; exact hp)⟩
  have pn : p ∉ W.as := fun z => st.trk p z hp
  refine ⟨n0, ⟨by rw [List.length_append, List.length_append, st.len]; rfl, ?_, fun a ha => ?_, fun a ha => ?_, fun i c' a h1 h2 => ?_, fun i p h => ⟨st.tabS i p h _, st.tabA i p h _⟩⟩⟩
  · rw [List.nodup_append]
    exact ⟨st.nd, by simp, fun a ha b hb => by rw [List.mem_singleton.mp hb]; exact fun z => pn (by rw [← z]; exact ha)⟩
  · rcases List.mem_append.mp ha with z | z
    · exact .inl (st.inF a z)
    · exact .inr (List.mem_singleton.mp z)
  · show upd W.H p o a ≠ none
    rcases ha with z | rfl
    · have : a ≠ p := fun e => st.tr a z (by rw [e]; exact hp)
      rw [upd_ne this]; exact st.tr a z
    · rw [upd_same]; simp
  · by_cases hi : i < s.length
    · rw [List.getElem?_append_left hi] at h1
      have h2' : W.as[i]? = some a := by
        have : (W.as ++ [p])[i]? = some a := h2
        rw [List.getElem?_append_left (by rw [← st.len]; exact hi)] at this
        exact this
      obtain ⟨o1, q1, q2⟩ := st.cell i c' a h1 h2'
      have na : a ≠ p := fun z => pn (by rw [← z]; exact List.mem_of_getElem? h2')
      exact ⟨o1, by show upd W.H p o a = _; rw [upd_ne na]; exact q1, q2.imp n0.kc fun _ _ => n0.rpL st.inF⟩
    · have hi2 : i = s.length := by
        have : i < (s ++ [c]).length := (List.getElem?_eq_some_iff.mp h1).1
        rw [List.length_append] at this
        simp at this
        omega
      subst hi2
      have e1 : (s ++ [c])[s.length]? = some c := by simp
      rw [e1] at h1; cases h1
      have e2 : (W.as ++ [p])[s.length]? = some p := by rw [st.len]; simp
      have h2' : (W.as ++ [p])[s.length]? = some a := h2
      rw [e2] at h2'; cases h2'
      exact ⟨o, upd_same, r.imp n0.kc fun _ _ => n0.rpL st.inF⟩
theorem e_cel (h : EvN X cv wx a fl) : EvE X cv wx a fun ρ => bnd (fl ρ) celK := by
  refine PE.imp h fun σ H Q ⟨ρ, s, W0, W, e, at_, h⟩ => ⟨ρ, s, W0, W, e, at_, ?_⟩
  refine h.bnd.mono fun ds W1 s1 n1 st1 h1 vs p r z hp => ?_
  have h2 : ∀ W', Nxt W1 W' → StOk X.K W' (s1 ++ [.lst ds]) → ∀ v, Rp X.K W' (.ref s1.length) v → Q v W'.H := h1
  obtain ⟨n2, st2⟩ := st1.celNew (c := .lst ds) (o := .lst vs) hp ⟨z, r⟩
  refine h2 _ n2 st2 _ (.ref ?_)
  show (W1.as ++ [p])[s1.length]? = some p
  rw [st1.len]; simp
theorem kd_rel {K : PySem.W.Frag} {W : Wd} {y : D} {k : Kd} {v : V} (h : keyOf y = some k) (r : Rp K W y v) : v = kV (toK k) := by
  cases y with
  | int i => cases h; cases r; rfl
  | str s => cases h; cases r; rfl
  | _ => cases h
theorem S_inj2 {k k' : Kd} : toK k = toK k' ↔ k = k' := by
  cases k with
  | inl i =>
    cases k' with
    | inl j => exact ⟨fun e => (by cases e; rfl), fun e => (by cases e; rfl)⟩
    | inr j => exact ⟨fun e => (by cases e), fun e => (by cases e)⟩
  | inr i =>
    cases k' with
    | inl j => exact ⟨fun e => (by cases e), fun e => (by cases e)⟩
    | inr j => exact ⟨fun e => (by rw [S_inj (Sum.inr.inj e)]), fun e => (by cases e; rfl)⟩
/-- a lookup -/
theorem dget_rp {K : PySem.W.Frag} {W : Wd} : ∀ {kvs : List (Kd × D)} {ps : List (Key × V)} {k : Kd}, ps.map (·.1) = kvs.map (fun p => toK p.1) → RpL K W (kvs.map (·.2)) (ps.map (·.2)) →
    match dGet kvs k with | some d => ∃ v, valV ps (toK k) = some v ∧ d.ok = true ∧ Rp K W d v | none => valV ps (toK k) = none
  | [], [], _, _, _ => rfl
  | [], _ :: _, _, h, _ => by cases h
  | _ :: _, [], _, h, _ => by cases h
  | (k0, d0) :: kvs, (k1, v1) :: ps, k, h, r => by
    have h1 : k1 = toK k0 := (List.cons.inj h).1
    have h2 := (List.cons.inj h).2
    subst h1
    cases r with | cons ok rd rr =>
    by_cases e : k0 = k
    · subst e
      have e1 : dGet ((k0, d0) :: kvs) k0 = some d0 := by unfold dGet; simp
      rw [e1]
      exact ⟨v1, valV_pos rfl, ok, rd⟩
    · have e1 : dGet ((k0, d0) :: kvs) k = dGet kvs k := by unfold dGet; simp [e]
      rw [e1]
      have ih := dget_rp (k := k) h2 rr
      have e2 : valV ((toK k0, v1) :: ps) (toK k) = valV ps (toK k) := valV_neg (fun z => e (S_inj2.mp z))
      rw [e2]
      exact ih
def rIxD : R2 := fun x y H Q => ∃ a v, x = .ref a ∧ DGet H a y (some v) ∧ Q v H
theorem ix_dict (hu : X.A.units + 1 < cLine) : IxR X rIxD := by
  intro value slice pins s σ H x y v u Q I rx ry h hs
  obtain ⟨a, w, rfl, g, q⟩ := h
  cases rx
  refine tail_any (ops := [.ref a, u]) (dict_typeIs I g) PySem.F.slot_dict_getitem.lookup ?_ hs
  exact d_getItem hu I g ry fun w' s3 I3 rw' => ⟨w, H, I3, rw', q⟩
/-- x[j] of a cell -/
theorem e_at0 (hu : X.A.units + 1 < cLine) (hs : PlainIx b) (ha : EvE X cv wx a fa) (hb : EvE X cv wx b fb) :
    EvE X cv wx (.Subscript a b pos) fun ρ => bnd (fa ρ) fun x => bnd (fb ρ) fun y => atOf x y := by
  refine PE.imp (pe_ix (ix_seq.or (ix_dict hu)) ha hb hs) fun σ H Q ⟨ρ, s, W0, W, e, at_, h⟩ => ?_
  refine ⟨ρ, s, W0, W, e, at_, h.bnd.mono fun x W1 s1 n1 st1 h1 u ru => ?_⟩
  refine ⟨ρ, s1, W0, W1, rfl, at_.next n1 st1, h1.bnd.mono fun y W2 s2 n2 st2 h2 v rv => ?_⟩
  cases x with
  | ref n =>
    cases (n2.rp st1.inF ru) with | ref hn =>
    rename_i ad
    cases hc : s2[n]? with
    | none =>
      exfalso
      unfold atOf at h2
      simp only [hc] at h2
      exact h2
    | some c =>
      unfold atOf at h2
      simp only [hc] at h2
      cases c with
      | lst l =>
        cases y with
        | int k =>
          cases rv
          obtain ⟨xs, q1, q2, q3⟩ := (st2.cell n _ ad hc hn).lst
          cases hp : pyAt l k with
          | none => simp only [hp] at h2; exact h2.elim
          | some d =>
            simp only [hp] at h2
            obtain ⟨w, w1, _, w2⟩ := pyAt_rp q3 hp
            exact .inl (.inl ⟨ad, xs, k, w, rfl, rfl, .inl (.inl q1), w1, h2 W2 Nxt.refl st2 _ w2⟩)
        | _ => exact h2.elim
      | dct kvs =>
        obtain ⟨ps, q1, q2, q3, q4, q5⟩ := (st2.cell n _ ad hc hn).dct
        cases hk : keyOf y with
        | none => simp only [hk] at h2; exact h2.elim
        | some k =>
          simp only [hk] at h2
          have hg := dget_rp (k := k) q3 q5
          cases hd : dGet kvs k with
          | none => simp only [hd] at h2; exact h2.elim
          | some d =>
            simp only [hd] at h2
            rw [hd] at hg
            obtain ⟨w, w1, _, w2⟩ := hg
            refine .inr ⟨ad, w, rfl, ?_, h2 W2 Nxt.refl st2 _ w2⟩
            rw [kd_rel hk rv, ← w1]
            exact DGet.k q1
      | tab _ => exact h2.elim
  | _ => exact (h2 : False).elim
end
end Ev

namespace Ev
open PySem PySem.Spec PyProof.Rows L2
open SX (S S_cat S_len S_inj S_tl)
section
variable {K : PySem.W.Frag} {σ : L2.St} {ρ ρ' : Env} {s : Store} {W0 W : Wd}
theorem set_get {α : Type} {l : List α} {i j : Nat} {x y : α} (h : (l.set i x)[j]? = some y) : (j = i ∧ y = x ∧ i < l.length) ∨ (j ≠ i ∧ l[j]? = some y) := by
  by_cases hj : i = j
  · subst hj
    rw [List.getElem?_set] at h
    simp only [if_pos] at h
    split at h
    · rename_i hlt
      cases h
      exact .inl ⟨rfl, rfl, hlt⟩
    · cases h
  · rw [List.getElem?_set_ne hj] at h
    exact .inr ⟨fun z => hj z.symm, h⟩
/-- a new list that this frame may still change -/
theorem At.own (a : At K σ ρ s W0 W) {i : Nat} {ds : List D} {vs : List V} {p : Addr} (hp : W.H p = none) (hz : ds.length ≤ lim) (r : RpL K W ds vs) :
    At K (σ.set i (some (.ref p))) (ρ.set i (some (.own ds))) s W0 { H := upd W.H p (.lst vs), as := W.as, F := fun b => W.F b ∨ b = p } := by
  have pn : p ∉ W.as := fun z => a.st.trk p z hp
  have n0 : Nxt W { H := upd W.H p (.lst vs), as := W.as, F := fun b => W.F b ∨ b = p } :=
    ⟨(Nxt.new (o := .lst vs) a.st hp).kp, (Nxt.new (o := .lst vs) a.st hp).tp, (Nxt.new (o := .lst vs) a.st hp).fz, List.prefix_refl _, fun b hb => .inl hb, fun b hb => hb.elim .inl fun z => .inr (by rw [z]; exact hp), fun b hb => .inl hb⟩
  have st' : StOk K { H := upd W.H p (.lst vs), as := W.as, F := fun b => W.F b ∨ b = p } s := a.st.next n0 rfl (fun b hb => by
    show upd W.H p (.lst vs) b ≠ none
    rcases hb with z | rfl
    · have : b ≠ p := fun e => a.st.tr b z (by rw [e]; exact hp)
      rw [upd_ne this]; exact a.st.tr b z
    · rw [upd_same]; simp) fun b hb => by
    have : b ≠ p := fun e => pn (by rw [← e]; exact hb)
    show upd W.H p (.lst vs) b = _
    rw [upd_ne this]
  have b := a.next n0 st'
  have hz0 : W0.H p = none := none_of a.fr.nx a.fr.tr0 hp fun z => pn (a.fr.nx.pre.subset z)
  have le := a.fr.len
  refine ⟨⟨b.fr.nx, b.fr.tr0, b.fr.tr1, by rw [List.length_set, List.length_set]; exact le, fun j d h => ?_, fun j es ad h1 h2 => ?_, fun j k es fs ad hjk h1 h2 h3 h4 => ?_⟩, st'⟩
  · rcases set_get h with ⟨rfl, e, hlt⟩ | ⟨hj, h⟩
    · cases e
      refine ⟨.ref p, by rw [List.getElem?_set]; simp [← le, hlt], .own upd_same (.inr rfl) pn hz (n0.rpL a.st.inF r)⟩
    · rw [List.getElem?_set_ne (Ne.symm hj)]
      exact b.fr.slot j d h
  · rcases set_get h1 with ⟨rfl, e, hlt⟩ | ⟨hj, h1⟩
    · have : (σ.set j (some (.ref p)))[j]? = some (some (.ref p)) := by rw [List.getElem?_set]; simp [← le, hlt]
      rw [this] at h2; cases h2
      exact hz0
    · rw [List.getElem?_set_ne (Ne.symm hj)] at h2
      exact b.fr.own j es ad h1 h2
  · -- the new one stands apart from the older
    have old : ∀ (j : Nat) es ad, ρ[j]? = some (some (.own es)) → σ[j]? = some (some (.ref ad)) → ad ≠ p := fun j es ad q1 q2 e => by
      obtain ⟨v, q3, q4⟩ := a.fr.slot j _ q1
      rw [q2] at q3; cases q3
      cases q4 with | own q5 _ _ _ _ =>
      rw [e, hp] at q5; cases q5
    rcases set_get h1 with ⟨ej, e, hlt⟩ | ⟨hj, h1⟩
    · rcases set_get h2 with ⟨ek, _, _⟩ | ⟨hk, h2⟩
      · exact hjk (ej.trans ek.symm)
      · rw [List.getElem?_set_ne (Ne.symm hk)] at h4
        rw [ej] at h3
        have this : (σ.set i (some (.ref p)))[i]? = some (some (.ref p)) := by rw [List.getElem?_set]; simp [← le, hlt]
        rw [this] at h3; cases h3
        exact old k fs p h2 h4 rfl
    · rw [List.getElem?_set_ne (Ne.symm hj)] at h3
      rcases set_get h2 with ⟨ek, _, hlt⟩ | ⟨hk, h2⟩
      · rw [ek] at h4
        have this : (σ.set i (some (.ref p)))[i]? = some (some (.ref p)) := by rw [List.getElem?_set]; simp [← le, hlt]
        rw [this] at h4; cases h4
        exact old j es p h1 h3 rfl
      · rw [List.getElem?_set_ne (Ne.symm hk)] at h4
        exact a.fr.sep j k es fs ad hjk h1 h2 h3 h4
/-- it is not changed any more -/
theorem At.frz (a : At K σ ρ s W0 W) {i : Nat} {l : List D} (h : ρ[i]? = some (some (.own l))) : ∃ W', W'.H = W.H ∧ At K σ (ρ.set i (some (.lst l))) s W0 W' ∧ Nx2 W W' := by
  obtain ⟨v, e1, r1⟩ := a.fr.slot i _ h
  cases r1 with | own h1 f1 n1 z1 r1 =>
  rename_i ad xs
  have h0 := a.fr.own i l ad h e1
  have hF : ∀ b, (W.F b ∧ b ≠ ad) → W.F b := fun b q => q.1
  have st' : StOk K ⟨W.H, W.as, fun b => W.F b ∧ b ≠ ad⟩ s := ⟨a.st.len, a.st.nd, fun b hb => ⟨a.st.inF b hb, fun z => n1 (by rw [← z]; exact hb)⟩, fun b hb => a.st.tr b hb.1, fun n c b q1 q2 => by
    have q := a.st.cell n c b q1 q2
    obtain ⟨o, y1, y2⟩ := q
    exact ⟨o, y1, y2.imp (W := W) (W1 := ⟨W.H, W.as, fun b => W.F b ∧ b ≠ ad⟩) (fun _ _ k1 k2 => ⟨k1, k2⟩) fun _ _ => RpL.fewer hF⟩, a.st.tab⟩
  refine ⟨⟨W.H, W.as, fun b => W.F b ∧ b ≠ ad⟩, rfl, ?_, ⟨fun _ _ q _ => q, fun _ _ q => q, fun _ _ _ q => q, List.prefix_refl _, fun _ q => .inl q.1⟩⟩
  refine ⟨⟨⟨a.fr.nx.kp, a.fr.nx.tp, a.fr.nx.fz, a.fr.nx.pre, fun b hb => ⟨a.fr.nx.fF b hb, fun z => ?_⟩, fun b hb => a.fr.nx.fN b hb.1, a.fr.nx.aN⟩, a.fr.tr0, a.fr.tr1, by rw [List.length_set]; exact a.fr.len, fun j d q => ?_, fun j es b q1 q2 => ?_, fun j k es fs b hjk q1 q2 q3 => ?_⟩, st'⟩
  · rw [z] at hb
    exact a.fr.tr1 ad hb h0
  · rcases set_get q with ⟨rfl, e, _⟩ | ⟨hj, q⟩
    · cases e
      exact ⟨.ref ad, e1, .lst (.inl h1) (fun z => z.2 rfl) z1 (RpL.fewer hF r1)⟩
    · obtain ⟨v, e2, r2⟩ := a.fr.slot j d q
      refine ⟨v, e2, ?_⟩
      cases ho : d.ok with
      | true => exact Rp.fewer hF ho r2
      | false =>
        cases r2 with
        | @own b ys es g1 g2 g3 g4 g5 =>
          have nb : b ≠ ad := fun z => a.fr.sep i j l es ad (Ne.symm hj) h q e1 (by rw [e2, z])
          exact .own g1 ⟨g2, nb⟩ g3 g4 (RpL.fewer hF g5)
        | _ => cases ho
  · rcases set_get q1 with ⟨_, e, _⟩ | ⟨hj, q1⟩
    · cases e
    · exact a.fr.own j es b q1 q2
  · rcases set_get q1 with ⟨_, e, _⟩ | ⟨hj, q1⟩
    · cases e
    · rcases set_get q2 with ⟨_, e, _⟩ | ⟨hk, q2⟩
      · cases e
      · exact a.fr.sep j k es fs b hjk q1 q2 q3
/-- what stands when the list at a, that may be changed, is changed -/
theorem ntf_lst {xs : List V} : NoTF (.lst xs) := ⟨fun _ e => (by cases e), fun _ _ e => (by cases e), fun _ e => (by cases e)⟩
theorem ntf_dK {xs : List (Key × V)} : NoTF (.dK xs) := ⟨fun _ e => (by cases e), fun _ _ e => (by cases e), fun _ e => (by cases e)⟩
theorem kc_chg {W : Wd} {ad : Addr} {o0 o : HO} (hx : W.H ad = some o0) (nt : NoTF o0) : Kc W ⟨upd W.H ad o, W.as, W.F⟩ := fun c q k1 k2 => ⟨k1, by
  show upd W.H ad o c = _
  rw [upd_ne (fun e => by rw [e, hx] at k2; cases k2; exact nt.2.2 _ rfl)]; exact k2⟩
theorem upd_sqT {H : Hp} {a b : Addr} {xs : List V} {o0 o : HO} (h : H a = some o0) (nt : NoTF o0) (g : SqT K H b xs) : SqT K (upd H a o) b xs := by
  rcases g with (g | ⟨ob, g⟩) | g
  · exact .inl (.inl (by rw [upd_ne (fun e => by rw [e, h] at g; cases g; exact nt.1 _ rfl)]; exact g))
  · exact .inl (.inr ⟨ob, by rw [upd_ne (fun e => by rw [e, h] at g; cases g; exact nt.2.1 _ _ rfl)]; exact g⟩)
  · exact .inr g
theorem upd_sqX {a b : Addr} {o0 o : HO} {xs : List V} (h : W.H a = some o0) (nt : NoTF o0) (g : SqX K W.H b xs) : SqX K (upd W.H a o) b xs := by
  rcases g with ⟨ob, d, g⟩ | g
  · exact .inl ⟨ob, d, by rw [upd_ne (fun e => by rw [e, h] at g; cases g; exact nt.2.1 _ _ rfl)]; exact g⟩
  · exact .inr g
mutual
theorem Rp.chg {a : Addr} {o0 o : HO} (h : W.H a = some o0) (nt : NoTF o0) (f : W.F a) : ∀ {d : D} {v : V}, d.ok = true → Rp K W d v → Rp K ⟨upd W.H a o, W.as, W.F⟩ d v
  | _, _, _, .non => .non
  | _, _, _, .bl b => .bl b
  | _, _, _, .int i => .int i
  | _, _, _, .str s h z => .str s h z
  | _, _, _, .tup g z r => .tup (upd_sqX h nt g) z (RpL.chg h nt f r)
  | _, _, _, .pr g o1 o2 r1 r2 => .pr (upd_sqT h nt g) o1 o2 (Rp.chg h nt f o1 r1) (Rp.chg h nt f o2 r2)
  | _, _, _, .lst g nf z r => .lst (by
      have nb : ∀ {b : Addr}, ¬ W.F b → b ≠ a := fun nb e => nb (by rw [e]; exact f)
      rcases g with g | ⟨ob, g⟩
      · exact .inl (by show upd W.H a o _ = _; rw [upd_ne (nb nf)]; exact g)
      · exact .inr ⟨ob, by show upd W.H a o _ = _; rw [upd_ne (nb nf)]; exact g⟩) nf z (RpL.chg h nt f r)
  | _, _, ok, .own g _ _ _ _ => by cases ok
  | _, _, _, .ref g => .ref g
theorem RpL.chg {a : Addr} {o0 o : HO} (h : W.H a = some o0) (nt : NoTF o0) (f : W.F a) : ∀ {ds : List D} {vs : List V}, RpL K W ds vs → RpL K ⟨upd W.H a o, W.as, W.F⟩ ds vs
  | _, _, .nil => .nil
  | _, _, .cons ok g r => .cons ok (Rp.chg h nt f ok g) (RpL.chg h nt f r)
end
/-- an item more -/
theorem At.app (a : At K σ ρ s W0 W) {i : Nat} {l : List D} {ad : Addr} {xs : List V} {y : D} {v : V} (h : ρ[i]? = some (some (.own l))) (hs : σ[i]? = some (some (.ref ad))) (hx : W.H ad = some (.lst xs)) (hz : l.length < lim) (ok : y.ok = true) (ry : Rp K W y v) :
    At K σ (ρ.set i (some (.own (l ++ [y])))) s W0 ⟨upd W.H ad (.lst (xs ++ [v])), W.as, W.F⟩ := by
  obtain ⟨v', e1, r1⟩ := a.fr.slot i _ h
  rw [hs] at e1; cases e1
  cases r1 with | own h1 f1 n1 z1 r1 =>
  rw [hx] at h1; cases h1
  have h0 := a.fr.own i l ad h hs
  have ne0 : ∀ b o, W0.H b = some o → b ≠ ad := fun b o e z => by rw [z, h0] at e; cases e
  have st' : StOk K ⟨upd W.H ad (.lst (xs ++ [v])), W.as, W.F⟩ s := ⟨a.st.len, a.st.nd, a.st.inF, fun b hb => by
      show upd W.H ad _ b ≠ none
      by_cases e : b = ad
      · rw [e, upd_same]; simp
      · rw [upd_ne e]; exact a.st.tr b hb, fun n c b q1 q2 => by
      have q := a.st.cell n c b q1 q2
      have nb : b ≠ ad := fun z => n1 (by rw [← z]; exact List.mem_of_getElem? q2)
      obtain ⟨o, y1, y2⟩ := q
      exact ⟨o, by show upd W.H ad _ b = _; rw [upd_ne nb]; exact y1, y2.imp (kc_chg hx ntf_lst) fun _ _ => RpL.chg hx ntf_lst f1⟩, a.st.tab⟩
  refine ⟨⟨⟨fun b o q1 q2 => ?_, fun b ys q => ?_, fun b o u q => ?_, a.fr.nx.pre, a.fr.nx.fF, a.fr.nx.fN, a.fr.nx.aN⟩, a.fr.tr0, a.fr.tr1, by rw [List.length_set]; exact a.fr.len, fun j d q => ?_, fun j es b q1 q2 => ?_, fun j k es fs b hjk q1 q2 q3 => ?_⟩, st'⟩
  · show upd W.H ad _ b = _
    rw [upd_ne (ne0 b o q1)]; exact a.fr.nx.kp b o q1 q2
  · show upd W.H ad _ b = _
    rw [upd_ne (ne0 b _ q)]; exact a.fr.nx.tp b ys q
  · show upd W.H ad _ b = _
    rw [upd_ne (ne0 b _ q)]; exact a.fr.nx.fz b o u q
  · rcases set_get q with ⟨rfl, e, _⟩ | ⟨hj, q⟩
    · cases e
      exact ⟨.ref ad, hs, .own upd_same f1 n1 (by rw [List.length_append]; exact hz) ((RpL.chg hx ntf_lst f1 r1).append (.cons ok (Rp.chg hx ntf_lst f1 ok ry) .nil))⟩
    · obtain ⟨w, e2, r2⟩ := a.fr.slot j d q
      refine ⟨w, e2, ?_⟩
      cases ho : d.ok with
      | true => exact Rp.chg hx ntf_lst f1 ho r2
      | false =>
        cases r2 with
        | @own b ys es g1 g2 g3 g4 g5 =>
          have nb : b ≠ ad := fun z => a.fr.sep i j l es ad (Ne.symm hj) h q hs (by rw [e2, z])
          exact .own (by show upd W.H ad _ b = _; rw [upd_ne nb]; exact g1) g2 g3 g4 (RpL.chg hx ntf_lst f1 g5)
        | _ => cases ho
  · rcases set_get q1 with ⟨rfl, e, _⟩ | ⟨hj, q1⟩
    · exact a.fr.own j l b h q2
    · exact a.fr.own j es b q1 q2
  · rcases set_get q1 with ⟨rfl, e, _⟩ | ⟨hj, q1⟩
    · rcases set_get q2 with ⟨ek, _, _⟩ | ⟨hk, q2⟩
      · exact absurd ek.symm hjk
      · exact a.fr.sep j k l fs b hjk h q2 q3
    · rcases set_get q2 with ⟨ek, e, _⟩ | ⟨hk, q2⟩
      · rw [ek]
        exact a.fr.sep j i es l b (by rw [← ek]; exact hjk) q1 h q3
      · exact a.fr.sep j k es fs b hjk q1 q2 q3
/-- a cell's item is another -/
theorem At.cput (a : At K σ ρ s W0 W) {n : Nat} {c' : Cell} {ad : Addr} {o0 o : HO} (hn : W.as[n]? = some ad) (hx : W.H ad = some o0) (nt : NoTF o0) (hn' : ∀ q, s[n]? ≠ some (.tab q)) (hc : CoOk K ⟨upd W.H ad o, W.as, W.F⟩ c' o) :
    At K σ ρ (s.set n c') W0 ⟨upd W.H ad o, W.as, W.F⟩ := by
  have hm := List.mem_of_getElem? hn
  have f1 : W.F ad := a.st.inF ad hm
  have n0 : Nxt W ⟨upd W.H ad o, W.as, W.F⟩ := ⟨fun b o q1 q2 => by
      show upd W.H ad _ b = _
      rw [upd_ne (fun e => q2 (by rw [e]; exact hm))]; exact q1, fun b ys q => by
      show upd W.H ad _ b = _
      rw [upd_ne (fun e => by rw [e, hx] at q; cases q; exact nt.1 _ rfl)]; exact q, fun b o u q => by
      show upd W.H ad _ b = _
      rw [upd_ne (fun e => by rw [e, hx] at q; cases q; exact nt.2.1 _ _ rfl)]; exact q, List.prefix_refl _, fun _ q => q, fun _ q => .inl q, fun _ q => .inl q⟩
  refine a.next n0 ⟨by rw [List.length_set]; exact a.st.len, a.st.nd, a.st.inF, fun b hb => ?_, fun k c b q1 q2 => ?_, fun i p h => ⟨by
    have q := (a.st.tab i p h).1
    rw [List.getElem?_set_ne (fun e => by rw [← e] at q; exact hn' _ q)]; exact q, (a.st.tab i p h).2⟩⟩
  · show upd W.H ad _ b ≠ none
    by_cases e : b = ad
    · rw [e, upd_same]; simp
    · rw [upd_ne e]; exact a.st.tr b hb
  · rcases set_get q1 with ⟨rfl, e, _⟩ | ⟨hk, q1⟩
    · cases e
      have q2' : W.as[k]? = some b := q2
      rw [hn] at q2'; cases q2'
      exact ⟨o, upd_same, hc⟩
    · have q := a.st.cell k c b q1 q2
      have nb : b ≠ ad := fun z => hk (by
        obtain ⟨g1, e1⟩ := List.getElem?_eq_some_iff.mp (show W.as[k]? = some b from q2)
        obtain ⟨g2, e2⟩ := List.getElem?_eq_some_iff.mp hn
        exact (List.getElem_inj a.st.nd).mp (e1.trans (z.trans e2.symm)))
      obtain ⟨o1, y1, y2⟩ := q
      exact ⟨o1, by show upd W.H ad _ b = _; rw [upd_ne nb]; exact y1, y2.imp (kc_chg hx nt) fun _ _ => RpL.chg hx nt f1⟩
theorem At.put (a : At K σ ρ s W0 W) {n m : Nat} {l : List D} {ad : Addr} {xs : List V} {y : D} {v : V} (hn : W.as[n]? = some ad) (hc : s[n]? = some (.lst l)) (hx : W.H ad = some (.lst xs)) (ok : y.ok = true) (ry : Rp K W y v) :
    At K σ ρ (s.set n (.lst (l.set m y))) W0 ⟨upd W.H ad (.lst (xs.set m v)), W.as, W.F⟩ := by
  have f1 : W.F ad := a.st.inF ad (List.mem_of_getElem? hn)
  obtain ⟨xs', h1, z1, r1⟩ := (a.st.cell n _ ad hc hn).lst
  rw [hx] at h1; cases h1
  exact a.cput hn hx ntf_lst (fun q e => by rw [hc] at e; cases e) ⟨by rw [List.length_set]; exact z1, (RpL.chg hx ntf_lst f1 r1).set ok (Rp.chg hx ntf_lst f1 ok ry) m⟩
end

theorem two_own {K : PySem.W.Frag} {s : Store} {W : Wd} {p : Addr} {o : HO} (st : StOk K W s) (hp : W.H p = none) : Nx2 W { H := upd W.H p o, as := W.as, F := fun b => W.F b ∨ b = p } :=
  ⟨fun b u h _ => by show upd W.H p o b = _; rw [upd_ne (ne_of_none h hp)]; exact h, fun b u h => by show upd W.H p o b = _; rw [upd_ne (ne_of_none h hp)]; exact h, fun b u x h => by show upd W.H p o b = _; rw [upd_ne (ne_of_none h hp)]; exact h, List.prefix_refl _, fun b hb => hb.elim .inl fun z => .inr (by rw [z]; exact hp)⟩
theorem two_chgG {W : Wd} {a : Addr} {o0 o : HO} (h : W.H a = some o0) (nt : NoTF o0) (f : W.F a) : Nx2 W ⟨upd W.H a o, W.as, W.F⟩ :=
  ⟨fun b u q nf => by show upd W.H a o b = _; rw [upd_ne (fun e => nf (by rw [e]; exact f))]; exact q, fun b u q => by show upd W.H a o b = _; rw [upd_ne (fun e => by rw [e, h] at q; cases q; exact nt.1 _ rfl)]; exact q, fun b u x q => by show upd W.H a o b = _; rw [upd_ne (fun e => by rw [e, h] at q; cases q; exact nt.2.1 _ _ rfl)]; exact q, List.prefix_refl _, fun b hb => .inl hb⟩
theorem two_chg {W : Wd} {a : Addr} {ys : List V} {o : HO} (h : W.H a = some (.lst ys)) (f : W.F a) : Nx2 W ⟨upd W.H a o, W.as, W.F⟩ := two_chgG h ntf_lst f

def AftS (K : PySem.W.Frag) (cv : Nat → Value) (W0 W : Wd) (σ : L2.St) (wx : WX) (r : Option (Res Fl × Store)) (E : Ends) : Prop := match r with
  | some (.ok (.nx ρ'), s') => ∀ σ' W', At K σ' ρ' s' W0 W' → Nx2 W W' → E.nx σ' W'.H
  | some (.ok (.ret d), s') => ∀ W', Nxt W0 W' → StOk K W' s' → ∀ v, d.ok = true → Rp K W' d v → E.rt v W'.H
  | some (.err e, s') => ∀ W', Nxt W0 W' → StOk K W' s' → ∀ cls d, ErrOk K cv W' e cls d → wx cls d σ W'.H
  | none => False
def sE (K : PySem.W.Frag) (cv : Nat → Value) (wx : WX) (g : Env → M Fl) : TS := fun E σ H => ∃ ρ s W0 W, W.H = H ∧ At K σ ρ s W0 W ∧ AftS K cv W0 W σ wx (g ρ s) E
abbrev EvS (X : Cx) (cv : Nat → Value) (wx : WX) (st : Stmt) (g : Env → M Fl) : Prop := PS X st (sE X.K cv wx g)
abbrev EvB (X : Cx) (cv : Nat → Value) (wx : WX) (st : List Stmt) (g : Env → M Fl) : Prop := PSs X st (sE X.K cv wx g)
def Free (wx : WX) : Prop := ∀ c d σ σ' H, wx c d σ H → wx c d σ' H
section
variable {X : Cx} {cv : Nat → Value} {wx : WX} {e a b c tg : Expr} {fa fb fc : Env → M D} {fl fi : Env → M (List D)} {pos p : Pos} {st : Stmt} {rest : List Stmt} {g g' : Env → M Fl} {σ : L2.St} {ρ : Env} {s : Store} {W0 W : Wd} {E : Ends}
theorem AftS.later {W1 : Wd} {r : Option (Res Fl × Store)} (h : AftS X.K cv W0 W σ wx r E) (n : Nx2 W W1) : AftS X.K cv W0 W1 σ wx r E := by
  cases r with
  | none => exact h
  | some r =>
    obtain ⟨r, s'⟩ := r
    cases r with
    | err e => exact h
    | ok x =>
      cases x with
      | ret d => exact h
      | nx ρ' => exact fun σ' W' a n' => h σ' W' a (n.trans n')
/-- a bind: the first part is an expression's -/
theorem AftS.bnd {α : Type} {m : M α} {f : α → M Fl} (at_ : At X.K σ ρ s W0 W) (h : AftS X.K cv W0 W σ wx (bnd m f s) E) : Aft X.K cv W σ wx (m s) fun x W1 s1 => At X.K σ ρ s1 W0 W1 ∧ AftS X.K cv W0 W1 σ wx (f x s1) E := by
  unfold Ev.bnd at h
  cases q : m s with
  | none => rw [q] at h; exact h
  | some r =>
    obtain ⟨r, s1⟩ := r
    rw [q] at h
    cases r with
    | ok x => exact fun W1 n1 st1 => ⟨at_.next n1 st1, AftS.later h (n1.two at_.st.inF)⟩
    | err e => exact fun W1 n1 st1 cls d q => h W1 (at_.fr.nx.trans n1 at_.st.trk) st1 cls d q
theorem s_set {i : Nat} {x : Str} {pos' : Pos} (hN : X.N.Nodup) (hi : X.N[i]? = some x) (hx : Loc X.env.scope x) (he : EvE X cv wx e fa) (hs : swapsWith e (some (.Name x pos')) pos.line X.env = pure false) (hf : X.fn x = true ∨ X.env.scope.names.lookup x = some .local) :
    EvS X cv wx (.Assign [.Name x pos'] e pos) fun ρ => bnd (fa ρ) fun x => bnd (asOk x) fun y => pur (.nx (ρ.set i (some y))) := by
  refine PS.imp (ps_set hN hi hx he hs hf) fun σ H E ⟨ρ, s, W0, W, eH, at_, h⟩ => ?_
  refine ⟨ρ, s, W0, W, eH, at_, (AftS.bnd at_ h).mono fun x W1 s1 n1 st1 ⟨at1, h1⟩ v rv => ?_⟩
  obtain ⟨ok, h2⟩ := asOk_inv (AftS.bnd at1 h1)
  obtain ⟨at2, h3⟩ := h2 W1 Nxt.refl st1
  exact h3 _ _ (at2.set ok rv) Nx2.refl
/-- name = [..], the comprehension's own store -/
theorem s_setN {i : Nat} {st : Stmt} (hst : PS X st (tAsg (tN X.K cv wx fl) (gName i))) : EvS X cv wx st fun ρ => bnd (fl ρ) fun ds => pur (.nx (ρ.set i (some (.lst ds)))) := by
  refine PS.imp hst fun σ H E ⟨ρ, s, W0, W, eH, at_, h⟩ => ?_
  refine ⟨ρ, s, W0, W, eH, at_, (AftS.bnd at_ h).mono fun ds W1 s1 n1 st1 ⟨at1, h1⟩ vs p r z hp => ?_⟩
  exact h1 _ _ ((at1.next (Nxt.new st1 hp) (st1.new hp)).set rfl (Rp.newL st1 hp z r)) ((Nxt.new st1 hp).two st1.inF)
theorem s_own {i : Nat} {st : Stmt} (hst : PS X st (tAsg (tN X.K cv wx fl) (gName i))) : EvS X cv wx st fun ρ => bnd (fl ρ) fun ds => pur (.nx (ρ.set i (some (.own ds)))) := by
  refine PS.imp hst fun σ H E ⟨ρ, s, W0, W, eH, at_, h⟩ => ?_
  refine ⟨ρ, s, W0, W, eH, at_, (AftS.bnd at_ h).mono fun ds W1 s1 n1 st1 ⟨at1, h1⟩ vs p r z hp => ?_⟩
  exact h1 _ _ (at1.own hp z r) (two_own st1 hp)
theorem b_frz {i : Nat} (h : EvB X cv wx rest g) : EvB X cv wx rest fun ρ => frzK g i ρ (slot ρ i) := by
  refine PSs.imp h fun σ H E ⟨ρ, s, W0, W, eH, at_, h⟩ => ?_
  have h' : AftS X.K cv W0 W σ wx (frzK g i ρ (slot ρ i) s) E := h
  cases hq : slot ρ i with
  | none => rw [hq] at h'; exact h'.elim
  | some d =>
    rw [hq] at h'
    cases d with
    | own l =>
      have hr : ρ[i]? = some (some (.own l)) := by
        unfold Ev.slot at hq
        split at hq
        · rename_i d' e2; cases hq; exact e2
        · cases hq
      obtain ⟨W', e1, at', n'⟩ := at_.frz hr
      exact ⟨_, s, W0, W', e1.trans eH, at', AftS.later h' n'⟩
    | _ => exact ⟨ρ, s, W0, W, eH, at_, h'⟩
theorem s_unp {is : List Nat} {e : Expr} (hg : PS X st (tAsg (tE X.K cv wx fa) (gTup X.K is.length (gNames is)))) :
    EvS X cv wx st fun ρ => bnd (fa ρ) fun x => bnd (ofO (bindTs is x ρ)) fun ρ' => pur (.nx ρ') := by
  refine PS.imp hg fun σ H E ⟨ρ, s, W0, W, eH, at_, h⟩ => ?_
  refine ⟨ρ, s, W0, W, eH, at_, (AftS.bnd at_ h).mono fun x W1 s1 n1 st1 ⟨at1, h1⟩ v rv => ?_⟩
  obtain ⟨ρ', e1, h2⟩ := (AftS.bnd at1 h1).ofO
  obtain ⟨at2, h3⟩ := h2 W1 Nxt.refl st1
  cases x with
  | tup ds =>
    have e1' : (if ds.length = is.length then some (sets is ds ρ) else none) = some ρ' := e1
    by_cases hl : ds.length = is.length
    · rw [if_pos hl] at e1'
      cases e1'
      cases rv with | tup hs z r =>
      rename_i ad xs
      have hx : xs.length = is.length := by rw [← r.length]; exact hl
      exact ⟨ad, xs, rfl, hs.t, hx, gNames_of is xs σ W1.H _ hx (h3 _ _ (at2.sets r) Nx2.refl)⟩
    · rw [if_neg hl] at e1'; cases e1'
  | pr d1 d2 =>
    have e1' : (if is.length = 2 then some (sets is [d1, d2] ρ) else none) = some ρ' := e1
    by_cases hl : is.length = 2
    · rw [if_pos hl] at e1'
      cases e1'
      cases rv with | @pr ad v1 v2 _ _ hs o1 o2 r1 r2 =>
      have r : RpL X.K W1 [d1, d2] [v1, v2] := .cons o1 r1 (.cons o2 r2 .nil)
      exact ⟨ad, [v1, v2], rfl, hs, hl.symm, gNames_of is _ σ W1.H _ hl.symm (h3 _ _ (at2.sets r) Nx2.refl)⟩
    · rw [if_neg hl] at e1'; cases e1'
  | _ => cases e1
theorem s_par2 {i j : Nat} (hst : PS X st (tPar i j (tA X.K cv wx fl))) : EvS X cv wx st fun ρ => bnd (fl ρ) fun ds => if ds.length = [i, j].length then pur (.nx (sets [i, j] ds ρ)) else non := by
  refine PS.imp hst fun σ H E ⟨ρ, s, W0, W, eH, at_, h⟩ => ?_
  refine ⟨ρ, s, W0, W, eH, at_, (AftS.bnd at_ h).mono fun ds W1 s1 n1 st1 ⟨at1, h1⟩ vs r => ?_⟩
  by_cases hl : ds.length = [i, j].length
  · rw [if_pos hl] at h1
    match ds, hl, h1, r with
    | [d1, d2], _, h1, .cons o1 r1 (.cons o2 r2 .nil) => exact ⟨_, _, rfl, h1 _ _ ((at1.set o1 r1).set o2 r2) Nx2.refl⟩
  · rw [if_neg hl] at h1; exact h1.elim
theorem At.setOwn (a : At X.K σ ρ s W0 W) {i : Nat} {ds : List D} {vs : List V} {p : Addr} (h1 : W.H p = some (.lst vs)) (f : W.F p) (na : p ∉ W.as) (hz : ds.length ≤ lim) (r : RpL X.K W ds vs) (h0 : W0.H p = none)
    (hd : ∀ (j : Nat) es, j ≠ i → ρ[j]? = some (some (.own es)) → σ[j]? ≠ some (some (.ref p))) : At X.K (σ.set i (some (.ref p))) (ρ.set i (some (.own ds))) s W0 W := by
  have le := a.fr.len
  have put : ∀ {j : Nat}, j < ρ.length → (σ.set j (some (.ref p)))[j]? = some (some (V.ref p)) := fun {j} hlt => by rw [List.getElem?_set]; simp [← le, hlt]
  refine ⟨⟨a.fr.nx, a.fr.tr0, a.fr.tr1, by rw [List.length_set, List.length_set]; exact le, fun j d h => ?_, fun j es ad g1 g2 => ?_, fun j k es fs ad hjk g1 g2 g3 g4 => ?_⟩, a.st⟩
  · rcases set_get h with ⟨rfl, e, hlt⟩ | ⟨hj, h⟩
    · cases e
      exact ⟨.ref p, put hlt, .own h1 f na hz r⟩
    · rw [List.getElem?_set_ne (Ne.symm hj)]
      exact a.fr.slot j d h
  · rcases set_get g1 with ⟨rfl, e, hlt⟩ | ⟨hj, g1⟩
    · rw [put hlt] at g2; cases g2
      exact h0
    · rw [List.getElem?_set_ne (Ne.symm hj)] at g2
      exact a.fr.own j es ad g1 g2
  · rcases set_get g1 with ⟨ej, e, hlt⟩ | ⟨hj, g1⟩
    · rcases set_get g2 with ⟨ek, _, _⟩ | ⟨hk, g2⟩
      · exact hjk (ej.trans ek.symm)
      · rw [List.getElem?_set_ne (Ne.symm hk)] at g4
        rw [ej, put (by rw [← ej]; simpa [ej] using hlt)] at g3; cases g3
        exact hd k fs hk g2 g4
    · rw [List.getElem?_set_ne (Ne.symm hj)] at g3
      rcases set_get g2 with ⟨ek, _, hlt⟩ | ⟨hk, g2⟩
      · rw [ek, put hlt] at g4; cases g4
        exact hd j es hj g1 g3
      · rw [List.getElem?_set_ne (Ne.symm hk)] at g4
        exact a.fr.sep j k es fs ad hjk g1 g2 g3 g4
/-- a new list, not yet in a slot -/
theorem At.fresh (a : At X.K σ ρ s W0 W) {vs : List V} {p : Addr} (hp : W.H p = none) : Nxt W { H := upd W.H p (.lst vs), as := W.as, F := fun b => W.F b ∨ b = p } ∧ StOk X.K { H := upd W.H p (.lst vs), as := W.as, F := fun b => W.F b ∨ b = p } s ∧
    W0.H p = none ∧ p ∉ W.as ∧ ∀ (j : Nat) es, ρ[j]? = some (some (.own es)) → σ[j]? ≠ some (some (.ref p)) := by
  have pn : p ∉ W.as := fun z => a.st.trk p z hp
  have n0 : Nxt W { H := upd W.H p (.lst vs), as := W.as, F := fun b => W.F b ∨ b = p } :=
    ⟨(Nxt.new (o := .lst vs) a.st hp).kp, (Nxt.new (o := .lst vs) a.st hp).tp, (Nxt.new (o := .lst vs) a.st hp).fz, List.prefix_refl _, fun b hb => .inl hb, fun b hb => hb.elim .inl fun z => .inr (by rw [z]; exact hp), fun b hb => .inl hb⟩
  refine ⟨n0, a.st.next n0 rfl (fun b hb => ?_) fun b hb => ?_, none_of a.fr.nx a.fr.tr0 hp fun z => pn (a.fr.nx.pre.subset z), pn, fun j es q1 q2 => ?_⟩
  · show upd W.H p (.lst vs) b ≠ none
    rcases hb with z | rfl
    · have : b ≠ p := fun e => a.st.tr b z (by rw [e]; exact hp)
      rw [upd_ne this]; exact a.st.tr b z
    · rw [upd_same]; simp
  · have : b ≠ p := fun e => pn (by rw [← e]; exact hb)
    show upd W.H p (.lst vs) b = _
    rw [upd_ne this]
  · obtain ⟨v, q3, q4⟩ := a.fr.slot j _ q1
    rw [q2] at q3; cases q3
    cases q4 with | own q5 _ _ _ _ =>
    rw [hp] at q5; cases q5
theorem s_paroF {i j : Nat} {fb : Env → M D} (hij : i ≠ j) (hst : PS X st (tPar i j (tCons (tN X.K cv wx fl) (tCons (tE X.K cv wx fb) tNil)))) :
    EvS X cv wx st fun ρ => bnd (fl ρ) fun l => bnd (fb ρ) fun x => bnd (asOk x) fun y => pur (.nx ((ρ.set i (some (.own l))).set j (some y))) := by
  refine PS.imp hst fun σ H E ⟨ρ, s, W0, W, eH, at_, h⟩ => ?_
  refine ⟨ρ, s, W0, W, eH, at_, (AftS.bnd at_ h).mono fun ds W1 s1 n1 st1 ⟨at1, h1⟩ vs p r z hp => ?_⟩
  obtain ⟨n2, st2, q0, qa, qd⟩ := at1.fresh (vs := vs) hp
  have at2 := at1.next n2 st2
  refine ⟨ρ, s1, W0, _, rfl, at2, (AftS.bnd at2 (AftS.later h1 (two_own st1 hp))).mono fun x W3 s3 n3 st3 ⟨at3, h3⟩ v rv => ?_⟩
  obtain ⟨ok, h4⟩ := asOk_inv (AftS.bnd at3 h3)
  obtain ⟨at4, h5⟩ := h4 W3 Nxt.refl st3
  have ro : Rp X.K W3 (.own ds) (.ref p) := n3.rp st2.inF (.own upd_same (.inr rfl) qa z (n2.rpL st1.inF r))
  cases ro with | own k1 k2 k3 k4 k5 =>
  refine ⟨_, _, rfl, h5 _ _ ((at4.setOwn k1 k2 k3 k4 k5 q0 fun m es _ g1 g2 => qd m es g1 g2).set ok rv) Nx2.refl⟩
theorem s_paroT {i j : Nat} {gl : Env → M (List D)} (hij : i ≠ j) (hst : PS X st (tPar i j (tCons (tN X.K cv wx fl) (tCons (tN X.K cv wx gl) tNil)))) :
    EvS X cv wx st fun ρ => bnd (fl ρ) fun l => bnd (gl ρ) fun m => pur (.nx ((ρ.set i (some (.own l))).set j (some (.own m)))) := by
  refine PS.imp hst fun σ H E ⟨ρ, s, W0, W, eH, at_, h⟩ => ?_
  refine ⟨ρ, s, W0, W, eH, at_, (AftS.bnd at_ h).mono fun ds W1 s1 n1 st1 ⟨at1, h1⟩ vs p r z hp => ?_⟩
  obtain ⟨n2, st2, q0, qa, qd⟩ := at1.fresh (vs := vs) hp
  have at2 := at1.next n2 st2
  refine ⟨ρ, s1, W0, _, rfl, at2, (AftS.bnd at2 (AftS.later h1 (two_own st1 hp))).mono fun es W3 s3 n3 st3 ⟨at3, h3⟩ us p2 r2 z2 hp2 => ?_⟩
  obtain ⟨n4, st4, w0, wa, wd⟩ := at3.fresh (vs := us) hp2
  have at4 := at3.next n4 st4
  have ro : Rp X.K W3 (.own ds) (.ref p) := n3.rp st2.inF (.own upd_same (.inr rfl) qa z (n2.rpL st1.inF r))
  have ne : p2 ≠ p := fun e => by
    cases ro with | own k1 _ _ _ _ =>
    rw [← e, hp2] at k1; cases k1
  have ro4 := n4.rp st3.inF ro
  cases ro4 with | own k1 k2 k3 k4 k5 =>
  have a5 := at4.setOwn (i := i) k1 k2 k3 k4 k5 q0 fun m es _ g1 g2 => qd m es g1 g2
  refine ⟨_, _, rfl, h3 _ _ (a5.setOwn (i := j) upd_same (.inr rfl) wa z2 (n4.rpL st3.inF r2) w0 fun m es' hm g1 g2 => ?_) (two_own st3 hp2)⟩
  rcases set_get g1 with ⟨ej, e, hlt⟩ | ⟨hj, g1⟩
  · have hl : m < σ.length := by
      rw [ej, ← at1.fr.len]; exact hlt
    rw [List.getElem?_set] at g2
    simp [ej, (show i < σ.length from by rw [← ej]; exact hl)] at g2
    exact ne g2.symm
  · rw [List.getElem?_set_ne (Ne.symm hj)] at g2
    exact wd m es' g1 g2
theorem s_par3 {i j k : Nat} (hst : PS X st (tPar3 i j k (tA X.K cv wx fl))) : EvS X cv wx st fun ρ => bnd (fl ρ) fun ds => if ds.length = [i, j, k].length then pur (.nx (sets [i, j, k] ds ρ)) else non := by
  refine PS.imp hst fun σ H E ⟨ρ, s, W0, W, eH, at_, h⟩ => ?_
  refine ⟨ρ, s, W0, W, eH, at_, (AftS.bnd at_ h).mono fun ds W1 s1 n1 st1 ⟨at1, h1⟩ vs r => ?_⟩
  by_cases hl : ds.length = [i, j, k].length
  · rw [if_pos hl] at h1
    match ds, hl, h1, r with
    | [d1, d2, d3], _, h1, .cons o1 r1 (.cons o2 r2 (.cons o3 r3 .nil)) => exact ⟨_, _, _, rfl, h1 _ _ (((at1.set o1 r1).set o2 r2).set o3 r3) Nx2.refl⟩
  · rw [if_neg hl] at h1; exact h1.elim
theorem s_app {i : Nat} {x : Str} {p1 p2 pos2 : Pos} (hN : X.N[i]? = some x) (hv : Vis X.env.scope x) (hd : (x == ("__debug__" : Str)) = false) (hcd : (x == ("__classdict__" : Str)) = false) (he : EvE X cv wx e fa)
    (hst : PS X st (tDrop (tBM X.K "list" rAppend (tVar i) (tCons (tE X.K cv wx fa) tNil)))) :
    EvS X cv wx st fun ρ => appK (fa ρ) i ρ (slot ρ i) := by
  refine PS.imp hst fun σ H E ⟨ρ, s, W0, W, eH, at_, h⟩ => ?_
  by_cases hsl : ∃ l, ρ[i]? = some (some (.own l))
  · obtain ⟨l, hl⟩ := hsl
    have esl : slot ρ i = some (.own l) := by unfold Ev.slot; rw [hl]
    have h' : AftS X.K cv W0 W σ wx (appK (fa ρ) i ρ (slot ρ i) s) E := h
    rw [esl] at h'
    have h0 := AftS.bnd at_ h'
    obtain ⟨v, e1, r1⟩ := at_.fr.slot i _ hl
    cases r1 with | @own ad xs _ g1 g2 g3 g4 g5 =>
    refine ⟨.ref ad, e1, .inl ⟨rfl, xs, .inl (.inl (by rw [← eH]; exact g1))⟩, ρ, s, W0, W, eH, at_, h0.mono fun x W1 s1 n1 st1 ⟨at1, h1⟩ u ru => ?_⟩
    obtain ⟨ok, h2⟩ := asOk_inv (AftS.bnd at1 h1)
    obtain ⟨at2, h4⟩ := h2 W1 Nxt.refl st1
    by_cases hz : l.length < lim
    · rw [if_pos hz] at h4
      have g1' : W1.H ad = some (.lst xs) := n1.kp ad _ g1 g3
      exact ⟨ad, xs, u, rfl, rfl, g1', by rw [← lim_eq, ← g5.length]; exact hz, h4 _ _ (at2.app hl e1 g1' hz ok ru) (two_chg g1' (n1.fF ad g2))⟩
    · rw [if_neg hz] at h4; exact h4.elim
  · exfalso
    have h' : AftS X.K cv W0 W σ wx (appK (fa ρ) i ρ (slot ρ i) s) E := h
    have esl : ∀ l, slot ρ i ≠ some (.own l) := fun l hh => by
      unfold Ev.slot at hh
      split at hh
      · rename_i d e2; cases hh; exact hsl ⟨l, e2⟩
      · cases hh
    cases hq : slot ρ i with
    | none => rw [hq] at h'; exact h'
    | some d =>
      cases d with
      | own l => exact esl l hq
      | _ => rw [hq] at h'; exact h'
theorem dput_any {kvs : List (Kd × D)} {ps : List (Key × V)} {k : Kd} (h : ps.map (·.1) = kvs.map (fun p => toK p.1)) : (ps.any fun kv => decide (kv.1 = toK k)) = kvs.any fun p => decide (p.1 = k) := by
  induction kvs generalizing ps with
  | nil => cases ps with
    | nil => rfl
    | cons _ _ => cases h
  | cons a kvs ih => cases ps with
    | nil => cases h
    | cons b ps =>
      have h1 : b.1 = toK a.1 := (List.cons.inj h).1
      rw [List.any_cons, List.any_cons, ih (List.cons.inj h).2, h1]
      congr 1
      exact decide_eq_decide.mpr S_inj2
theorem dput_rp {K : PySem.W.Frag} {W : Wd} {kvs : List (Kd × D)} {ps : List (Key × V)} {k : Kd} {y : D} {v : V} (h : ps.map (·.1) = kvs.map (fun p => toK p.1)) (r : RpL K W (kvs.map (·.2)) (ps.map (·.2))) (ok : y.ok = true) (ry : Rp K W y v) :
    (putK ps (toK k) v).map (·.1) = (dPut kvs k y).map (fun p => toK p.1) ∧ RpL K W ((dPut kvs k y).map (·.2)) ((putK ps (toK k) v).map (·.2)) := by
  unfold putK dPut
  rw [dput_any h]
  cases ha : kvs.any fun p => decide (p.1 = k) with
  | false =>
    rw [if_neg Bool.false_ne_true, if_neg Bool.false_ne_true]
    refine ⟨by rw [List.map_append, List.map_append, h]; rfl, ?_⟩
    rw [List.map_append, List.map_append]
    exact r.append (.cons ok ry .nil)
  | true =>
    rw [if_pos rfl, if_pos rfl]
    clear ha
    induction kvs generalizing ps with
    | nil => cases ps with
      | nil => exact ⟨rfl, .nil⟩
      | cons _ _ => cases h
    | cons a kvs ih => cases ps with
      | nil => cases h
      | cons b ps =>
        have h1 : b.1 = toK a.1 := (List.cons.inj h).1
        obtain ⟨g1, g2⟩ := ih (List.cons.inj h).2 (by cases r with | cons _ _ r => exact r)
        cases r with | cons o1 r1 r2 =>
        by_cases e : a.1 = k
        · have e2 : b.1 = toK k := by rw [h1, e]
          simp only [List.map_cons, if_pos e, if_pos e2]
          exact ⟨by rw [h1, g1], .cons ok ry g2⟩
        · have e2 : ¬ b.1 = toK k := by rw [h1]; exact fun z => e (S_inj2.mp z)
          simp only [List.map_cons, if_neg e, if_neg e2]
          exact ⟨by rw [h1, g1], .cons o1 r1 g2⟩
theorem dput_ok {kvs : List (Kd × D)} {k : Kd} {y : D} (h : ∀ p ∈ kvs, kdOk p.1 = true) (hk : kdOk k = true) : ∀ p ∈ dPut kvs k y, kdOk p.1 = true := by
  intro p hp
  unfold dPut at hp
  split at hp
  · obtain ⟨q, hq, rfl⟩ := List.mem_map.mp hp
    split <;> exact h q hq
  · rcases List.mem_append.mp hp with hp | hp
    · exact h p hp
    · rw [List.mem_singleton.mp hp]; exact hk
theorem dput_len {kvs : List (Kd × D)} {k : Kd} {y : D} : (dPut kvs k y).length ≤ kvs.length + 1 := by
  unfold dPut
  split
  · rw [List.length_map]; omega
  · rw [List.length_append]; simp
theorem kd_ok {K : PySem.W.Frag} {W : Wd} {y : D} {k : Kd} {v : V} (h : keyOf y = some k) (r : Rp K W y v) : kdOk k = true := by
  cases y with
  | int i => cases h; rfl
  | str s =>
    cases h
    cases r with | str _ h1 h2 =>
    show (_ && decide _) = true
    rw [h1, decide_eq_true h2]; rfl
  | _ => cases h
def rSetU : TSet := fun o i v H Q => rSetL o i v H Q ∨ rSetD o i v H Q
theorem set_u (hu : X.A.units + 1 < cLine) : PSet X rSetU := by
  intro pins s σ H o i v ov iv u Q I ro ri rv h
  rcases h with h | h
  · exact set_list pins s σ H o i v ov iv u Q I ro ri rv h
  · exact set_dict hu pins s σ H o i v ov iv u Q I ro ri rv h
theorem s_put {o j : Expr} {fo fj : Env → M D} (hst : PS X st (tAsg (tE X.K cv wx fa) (gSub (tE X.K cv wx fo) (tE X.K cv wx fj) rSetU))) :
    EvS X cv wx st fun ρ => bnd (fa ρ) fun x => bnd (asOk x) fun y => bnd (fo ρ) fun o => bnd (fj ρ) fun z => bnd (putOf o z y) fun _ => pur (.nx ρ) := by
  refine PS.imp hst fun σ H E ⟨ρ, s, W0, W, eH, at_, h⟩ => ?_
  refine ⟨ρ, s, W0, W, eH, at_, (AftS.bnd at_ h).mono fun x W1 s1 n1 st1 ⟨at1, h1⟩ v rv => ?_⟩
  obtain ⟨ok, h2⟩ := asOk_inv (AftS.bnd at1 h1)
  obtain ⟨at2, h3⟩ := h2 W1 Nxt.refl st1
  refine ⟨ρ, s1, W0, W1, rfl, at2, (AftS.bnd at2 h3).mono fun o' W2 s2 n2 st2 ⟨at3, h4⟩ u ru => ?_⟩
  refine ⟨ρ, s2, W0, W2, rfl, at3, (AftS.bnd at3 h4).mono fun z W3 s3 n3 st3 ⟨at4, h5⟩ w rw' => ?_⟩
  have ru' := n3.rp st2.inF ru
  have rv' := n3.rp st2.inF (n2.rp st1.inF rv)
  cases o' with
  | ref n =>
    cases ru' with | @ref _ ad hn =>
    have f1 : W3.F ad := st3.inF ad (List.mem_of_getElem? hn)
    have h6 : AftS X.K cv W0 W3 σ wx (bnd (putOf (.ref n) z x) (fun _ => pur (.nx ρ)) s3) E := h5
    unfold Ev.bnd putOf at h6
    cases hc : s3[n]? with
    | none => simp only [hc] at h6; exact h6.elim
    | some c =>
      cases c with
      | lst l =>
        cases z with
        | int k =>
          cases rw'
          simp only [hc] at h6
          obtain ⟨xs, q1, q2, q3⟩ := (st3.cell n _ ad hc hn).lst
          cases hp : pyIx l.length k with
          | none => simp only [hp] at h6; exact h6.elim
          | some m =>
            simp only [hp] at h6
            refine .inl ⟨ad, xs, k, m, rfl, rfl, q1, ?_, ?_⟩
            · rw [← q3.length]; exact hp
            · exact h6 _ _ (at4.put hn hc q1 ok rv') (two_chg q1 f1)
        | _ => simp only [hc] at h6; exact h6.elim
      | dct kvs =>
        simp only [hc] at h6
        obtain ⟨ps, q1, q2, q3, q4, q5⟩ := (st3.cell n _ ad hc hn).dct
        cases hk : keyOf z with
        | none => simp only [hk] at h6; exact h6.elim
        | some k =>
          simp only [hk] at h6
          by_cases hl : kvs.length < lim
          · simp only [hl, if_true] at h6
            have e1 := kd_rel hk rw'
            subst e1
            have hlen : ps.length < sizeLine := by
              have := q5.length
              rw [List.length_map, List.length_map] at this
              rw [← lim_eq, ← this]; exact hl
            refine .inr ⟨ad, _, rfl, DPut.k q1 hlen, ?_⟩
            have hR : ∀ ds vs, RpL X.K W3 ds vs → RpL X.K ⟨upd W3.H ad (.dK (putK ps (toK k) v)), W3.as, W3.F⟩ ds vs := fun _ _ => RpL.chg q1 ntf_dK f1
            obtain ⟨g1, g2⟩ := dput_rp (k := k) q3 q5 ok rv'
            refine h6 _ _ (at4.cput (o := .dK (putK ps (toK k) v)) hn q1 ntf_dK (fun q e => by rw [hc] at e; cases e) ⟨Nat.le_trans dput_len hl, g1, dput_ok q4 (kd_ok hk rw'), hR _ _ g2⟩) (two_chgG q1 ntf_dK f1)
          · simp only [hl, if_false] at h6
            exact h6.elim
      | tab _ => simp only [hc] at h6; exact h6.elim
  | _ => exact ((AftS.bnd at4 h5) : False).elim
theorem s_ret (he : EvE X cv wx e fa) : EvS X cv wx (.Return (some e) pos) fun ρ => bnd (fa ρ) fun x => bnd (asOk x) fun y => pur (.ret y) := by
  refine PS.imp (ps_ret he) fun σ H E ⟨ρ, s, W0, W, eH, at_, h⟩ => ?_
  refine ⟨ρ, s, W0, W, eH, at_, (AftS.bnd at_ h).mono fun x W1 s1 n1 st1 ⟨at1, h1⟩ v rv => ?_⟩
  obtain ⟨ok, h2⟩ := asOk_inv (AftS.bnd at1 h1)
  obtain ⟨at2, h3⟩ := h2 W1 Nxt.refl st1
  exact h3 W1 at2.fr.nx at2.st v ok rv
theorem s_drop (he : EvE X cv wx e fa) (hs : swapsWith e none pos.line X.env = pure false) : EvS X cv wx (.Expr e pos) fun ρ => bnd (fa ρ) fun _ => pur (.nx ρ) := by
  refine PS.imp (ps_expr he hs) fun σ H E ⟨ρ, s, W0, W, eH, at_, h⟩ => ?_
  refine ⟨ρ, s, W0, W, eH, at_, (AftS.bnd at_ h).mono fun x W1 s1 n1 st1 ⟨at1, h1⟩ v rv => h1 _ _ at1 Nx2.refl⟩
theorem s_skip (hst : PS X st tNext) : EvS X cv wx st fun ρ => pur (.nx ρ) := by
  refine PS.imp hst fun σ H E ⟨ρ, s, W0, W, eH, at_, h⟩ => ?_
  subst eH
  exact h _ _ at_ Nx2.refl
theorem b_nil : EvB X cv wx [] fun ρ => pur (.nx ρ) := by
  refine PSs.imp pss_nil fun σ H E ⟨ρ, s, W0, W, eH, at_, h⟩ => ?_
  subst eH
  exact h _ _ at_ Nx2.refl
theorem AftS.free {σ' : L2.St} {r : Option (Res Fl × Store)} (hw : Free wx) (h : AftS X.K cv W0 W σ wx r E) : AftS X.K cv W0 W σ' wx r E := by
  cases r with
  | none => exact h
  | some r =>
    obtain ⟨r, s'⟩ := r
    cases r with
    | err e => exact fun W'' n st cls d q => hw _ _ _ _ _ (h W'' n st cls d q)
    | ok x => cases x <;> exact h
def seqF (g g' : Env → M Fl) (ρ : Env) : M Fl := bnd (g ρ) fun x => (match x with
  | .nx ρ' => g' ρ'
  | .ret d => pur (.ret d))
theorem b_cons (hw : Free wx) (h1 : EvS X cv wx st g) (h2 : EvB X cv wx rest g') : EvB X cv wx (st :: rest) (seqF g g') := by
  refine PSs.imp (pss_cons h1 h2) fun σ H E ⟨ρ, s, W0, W, eH, at_, h⟩ => ?_
  refine ⟨ρ, s, W0, W, eH, at_, ?_⟩
  have h' : AftS X.K cv W0 W σ wx (seqF g g' ρ s) E := h
  unfold seqF Ev.bnd at h'
  cases q : g ρ s with
  | none => rw [q] at h'; exact h'
  | some r =>
    obtain ⟨r, s1⟩ := r
    rw [q] at h'
    cases r with
    | err e => exact h'
    | ok x =>
      cases x with
      | ret d => exact h'
      | nx ρ' =>
        intro σ' W' at' n'
        refine ⟨ρ', s1, W0, W', rfl, at', ?_⟩
        exact AftS.free hw (AftS.later (show AftS X.K cv W0 W σ wx (g' ρ' s1) E from h') n')
theorem b_one (h1 : EvS X cv wx st g) : EvB X cv wx [st] g := pss_one h1
theorem s_ite {ft : Env → M Bool} {th el : List Stmt} (hc : EvT X cv wx c ft) (ha : EvB X cv wx th g) (hb : EvB X cv wx el g') : EvS X cv wx (.If c th el pos) fun ρ => bnd (ft ρ) fun k => if k then g ρ else g' ρ := by
  refine PS.imp (ps_if hc ha hb) fun σ H E ⟨ρ, s, W0, W, eH, at_, h⟩ => ?_
  refine ⟨ρ, s, W0, W, eH, at_, (AftS.bnd at_ h).mono fun k W1 s1 n1 st1 ⟨at1, h1⟩ => ?_⟩
  cases k with
  | true => exact ⟨ρ, s1, W0, W1, rfl, at1, h1⟩
  | false => exact ⟨ρ, s1, W0, W1, rfl, at1, h1⟩
end
end Ev

namespace Ev
open PySem PySem.Spec PyProof.Rows L2
open SX (S S_cat S_len S_inj S_tl)
section
variable {X : Cx} {cv : Nat → Value} {wx : WX} {e a b c tg it : Expr} {fa fb fc : Env → M D} {fl fi : Env → M (List D)} {pos p : Pos} {st : Stmt} {rest body : List Stmt} {g g' : Env → M Fl} {σ : L2.St} {ρ : Env} {s : Store} {W0 W : Wd} {E : Ends}
theorem drop_next {α : Type} {l : List α} {i : Nat} {d : α} {ds : List α} (h : l.drop i = d :: ds) : l[i]? = some d ∧ l.drop (i + 1) = ds ∧ i < l.length := by
  have hlt : i < l.length := by
    rcases Nat.lt_or_ge i l.length with z | z
    · exact z
    · rw [List.drop_eq_nil_of_le z] at h; cases h
  have := List.drop_eq_getElem_cons hlt
  rw [h] at this
  cases this
  exact ⟨List.getElem?_eq_getElem hlt, rfl, hlt⟩
theorem s_for {tgs : List Nat} (hw : Free wx) (hp : PassesOwn (model X.prog X.w) X.A X.env X.xe) (hc : X.calm = true) (hi : EvI X cv wx tg it fi) (hg : PG X tg (gOf X.K tgs)) (hb : EvB X cv wx body g) (hs : ∀ x, foldedSetIterable it X.env x = pure x) :
    EvS X cv wx (.For tg it body [] pos) fun ρ => bnd (fi ρ) fun ds => forL (fun d ρ' => bnd (ofO (bindT tgs d ρ')) fun ρ'' => g ρ'') ds ρ := by
  refine PS.imp (ps_for hp hc hi hg hb hs) fun σ H E ⟨ρ, s, W0, W, eH, at_, h⟩ => ?_
  refine ⟨ρ, s, W0, W, eH, at_, (AftS.bnd at_ h).mono fun ds W1 s1 n1 st1 ⟨at1, h1⟩ J hJ oks hz => ?_⟩
  generalize hf : (fun (d : D) (ρ' : Env) => bnd (ofO (bindT tgs d ρ')) fun ρ'' => g ρ'') = f at h1
  refine ⟨fun i m σi Hi => m = ds.length - i ∧ i ≤ ds.length ∧ ∃ ρi si Wi, Wi.H = Hi ∧ At X.K σi ρi si W0 Wi ∧ Nx2 W1 Wi ∧ AftS X.K cv W0 Wi σi wx (forL f (ds.drop i) ρi si) E, ⟨ds.length, by simp, Nat.zero_le _, ρ, s1, W1, rfl, at1, Nx2.refl, by simpa using h1⟩, ?_⟩
  rintro i m σi Hi ⟨rfl, hile, ρi, si, Wi, rfl, ati, ni, hi'⟩
  obtain ⟨hJ1, hJ2⟩ := hJ Wi si ni ati.st
  cases hd : ds.drop i with
  | nil =>
    have hi0 : i = ds.length := by
      have := congrArg List.length hd
      rw [List.length_drop] at this
      simp at this
      omega
    rw [hd] at hi'
    subst hi0
    exact .inl ⟨hJ2, hi' _ _ ati Nx2.refl⟩
  | cons d rest =>
    obtain ⟨e1, e2, hlt⟩ := drop_next hd
    rw [hd] at hi'
    obtain ⟨go, hyld⟩ := hJ1 i d e1
    refine .inr ⟨go, fun σ' H' => ∃ ρi si Wi, Wi.H = H' ∧ At X.K σ' ρi si W0 Wi ∧ Nx2 W1 Wi ∧ AftS X.K cv W0 Wi σ' wx (forL f (ds.drop (i + 1)) ρi si) E, fun σ' H' hN => ⟨ds.length - (i + 1), by omega, rfl, hlt, hN⟩, fun v H' hy => ?_⟩
    obtain ⟨W2, rfl, n2, st2, _, _, rv⟩ := hyld v H' hy
    have at2 := ati.next n2 st2
    have h2 : AftS X.K cv W0 W2 σi wx (bnd (f d ρi) (fun r => (match r with
      | .nx ρ' => forL f rest ρ'
      | .ret x => pur (.ret x))) si) E := AftS.later hi' (n2.two ati.st.inF)
    rw [← hf] at h2
    have h3 : AftS X.K cv W0 W2 σi wx (bnd (bnd (ofO (bindT tgs d ρi)) fun ρ'' => g ρ'') (fun r => (match r with
      | .nx ρ' => forL (fun (d : D) (ρ' : Env) => bnd (ofO (bindT tgs d ρ')) fun ρ'' => g ρ'') rest ρ'
      | .ret x => pur (.ret x))) si) E := h2
    rw [bnd_assoc, hf] at h3
    obtain ⟨ρ', hb1, h4⟩ := (AftS.bnd at2 h3).ofO
    obtain ⟨at3, h5⟩ := h4 W2 Nxt.refl at2.st
    refine gOf_of at2 (oks d (List.mem_of_getElem? e1)) rv hb1 fun σ' at' => ⟨ρ', si, W0, W2, rfl, at', ?_⟩
    have h6 := AftS.free (σ' := σ') hw h5
    unfold Ev.bnd at h6
    cases q : g ρ' si with
    | none => rw [q] at h6; exact h6
    | some r =>
      obtain ⟨r, s3⟩ := r
      rw [q] at h6
      cases r with
      | err ex => exact h6
      | ok x =>
        cases x with
        | ret y => exact h6
        | nx ρ'' =>
          intro σ'' W' at'' n''
          exact ⟨ρ'', s3, W', rfl, at'', (ni.trans (n2.two ati.st.inF)).trans n'', by rw [e2]; exact AftS.free hw (AftS.later (show AftS X.K cv W0 W2 σ' wx (forL f rest ρ'' s3) E from h6) n'')⟩
theorem s_whl {n : Nat} {ft : Env → M Bool} (hw : Free wx) (hp : PassesOwn (model X.prog X.w) X.A X.env X.xe) (hc : EvT X cv wx c ft) (hb : EvB X cv wx body g) :
    EvS X cv wx (.While c body [] pos) fun ρ => whlN ft g n ρ := by
  refine PS.imp (ps_while hp hc hb) fun σ H E ⟨ρ, s, W0, W, eH, at_, h⟩ => ?_
  refine ⟨fun m σi Hi => ∃ ρi si Wi, Wi.H = Hi ∧ At X.K σi ρi si W0 Wi ∧ AftS X.K cv W0 Wi σi wx (whlN ft g m ρi si) E, ⟨n, ρ, s, W, eH, at_, h⟩, ?_⟩
  rintro m σi Hi ⟨ρi, si, Wi, rfl, ati, hi⟩
  cases m with
  | zero => exact hi.elim
  | succ m =>
    have h1 : AftS X.K cv W0 Wi σi wx (bnd (ft ρi) (fun k => if k then bnd (g ρi) fun r => (match r with
      | .nx ρ' => whlN ft g m ρ'
      | .ret x => pur (.ret x)) else pur (.nx ρi)) si) E := hi
    refine ⟨ρi, si, W0, Wi, rfl, ati, (AftS.bnd ati h1).mono fun k W1 s1 n1 st1 ⟨at1, h2⟩ => ?_⟩
    cases k with
    | false =>
      refine iteF ?_
      exact h2 _ _ at1 Nx2.refl
    | true =>
      refine iteT ?_
      refine ⟨fun σ' H' => ∃ ρi si Wi, Wi.H = H' ∧ At X.K σ' ρi si W0 Wi ∧ AftS X.K cv W0 Wi σ' wx (whlN ft g m ρi si) E, fun σ' H' hN => ⟨m, Nat.lt_succ_self _, hN⟩, ρi, s1, W0, W1, rfl, at1, ?_⟩
      have h6 : AftS X.K cv W0 W1 σi wx (bnd (g ρi) (fun r => (match r with
        | .nx ρ' => whlN ft g m ρ'
        | .ret x => pur (.ret x))) s1) E := h2
      unfold Ev.bnd at h6
      cases q : g ρi s1 with
      | none => rw [q] at h6; exact h6
      | some r =>
        obtain ⟨r, s3⟩ := r
        rw [q] at h6
        cases r with
        | err ex => exact h6
        | ok x =>
          cases x with
          | ret y => exact h6
          | nx ρ'' =>
            intro σ'' W' at'' n''
            exact ⟨ρ'', s3, W', rfl, at'', AftS.free hw (AftS.later (show AftS X.K cv W0 W1 σi wx (whlN ft g m ρ'' s3) E from h6) n'')⟩
end
theorem RpL.notOwn {K : PySem.W.Frag} {W : Wd} {ds : List D} {vs : List V} (r : RpL K W ds vs) {i : Nat} {l : List D} (h : ds[i]? = some (.own l)) : False := by
  obtain ⟨_, _, o, _⟩ := r.get h
  cases o
def ρ0 (n : Nat) (ds : List D) : Env := ds.map some ++ List.replicate (n - ds.length) none
theorem at_start {K : PySem.W.Frag} {W : Wd} {s : Store} {N : List Str} {ds : List D} {vs : List V} (st : StOk K W s) (r : RpL K W ds vs) : At K (L2.start N vs) (ρ0 N.length ds) s W W := by
  have key : ∀ (i : Nat) d, (ρ0 N.length ds)[i]? = some (some d) → ds[i]? = some d := fun i d h => by
    unfold ρ0 at h
    by_cases hi : i < ds.length
    · rw [List.getElem?_append_left (by simpa using hi), List.getElem?_map] at h
      cases e : ds[i]? with
      | none => rw [e] at h; cases h
      | some x => rw [e] at h; cases h; rfl
    · rw [List.getElem?_append_right (by simpa using hi), List.getElem?_replicate] at h
      split at h <;> cases h
  refine ⟨⟨Nxt.refl, st.trk, st.tr, ?_, fun i d h => ?_, fun i l a h _ => ?_, fun i j l m a _ h _ _ => ?_⟩, st⟩
  · unfold ρ0 L2.start
    rw [List.length_append, List.length_append, List.length_map, List.length_map, List.length_replicate, List.length_replicate, r.length]
  · obtain ⟨v, e, _, rv⟩ := r.get (key i d h)
    refine ⟨v, ?_, rv⟩
    unfold L2.start
    rw [List.getElem?_append_left (by rw [List.length_map]; exact (List.getElem?_eq_some_iff.mp e).1), List.getElem?_map, e]
    rfl
  · exact (r.notOwn (key i _ h)).elim
  · exact (r.notOwn (key i _ h)).elim
def bodyF (g : Env → M Fl) (n : Nat) (ds : List D) : M D := bnd (g (ρ0 n ds)) fun r => (match r with
  | .nx _ => pur .non
  | .ret d => pur d)
abbrev wxE (E : XK) : WX := fun c d _ H => E c d H
theorem fn_ok {P : Program} {w : World} {K : PySem.W.Frag} {mg : Str → Option Value} {base : Heap} {x qual : Str} {params : Arguments} {body : List Stmt} {scope : Scope} {dvs : List V} {kws : List (Str × V)} {f : Addr} {fd : FuncData} {cv : Nat → Value}
    {N ps : List Str} {k : Nat} {g : Env → M Fl} (F : FunD K x qual params body scope dvs kws f fd) (S : FnScope N ps scope)
    (hb : ∀ (cdv : Value), (∃ (o : Obj) (fdat : FuncData), K.lookup f = some o ∧ o.data = .func fdat ∧ fdat.code = cdv ∧ fdat.qualname = qual) → ∀ (A : Around) (outer : List PySem.Env) (s : Shared) (H : Hp) (E : XK), Room k (A.deeper (envOfC qual scope s.heap.objs.size f cdv)) → EvB (cxOf (L2.CX P w) P w K mg base N qual scope f cdv A outer s H E) cv (wxE E) body g) :
    FnOk P w K mg base (L2.CX P w) (k + 1) f fd ps (spF K cv (bodyF g N.length) ps.length) := by
  obtain ⟨oc, od, dV, kV, doc, pm, an, cdv, ct, osl, rfl, lk, hcd, _, _⟩ := F.ex
  refine fn_of lk hcd S (fun vs H Q E h => h.1) (fun A outer s H vs Q E hr h => ⟨_, hb cdv ⟨_, _, lk, rfl, rfl, rfl⟩ A outer s H E hr, ?_⟩)
  obtain ⟨hl, ds, sv, W, eH, st, r, h⟩ := h
  refine ⟨ρ0 N.length ds, sv, W, W, eH, at_start st r, ?_⟩
  -- the world as the caller has it
  have back : ∀ (W' : Wd) (s' : Store), Nxt W W' → StOk K W' s' → ∃ W'', W''.H = W'.H ∧ Nxt W W'' ∧ StOk K W'' s' ∧ ∀ d v, d.ok = true → Rp K W' d v → Rp K W'' d v := by
    intro W' s' n st'
    have hF : ∀ b, (W.F b ∨ b ∈ W'.as) → W'.F b := fun b q => q.elim (n.fF b) (st'.inF b)
    refine ⟨⟨W'.H, W'.as, fun b => W.F b ∨ b ∈ W'.as⟩, rfl, ⟨n.kp, n.tp, n.fz, n.pre, fun b q => .inl q, fun b q => n.fN b (hF b q), n.aN⟩, ⟨st'.len, st'.nd, fun b q => .inr q, fun b q => st'.tr b (hF b q), fun i c b q1 q2 => ?_, st'.tab⟩, fun d v ok q => Rp.fewer hF ok q⟩
    have q := st'.cell i c b q1 q2
    obtain ⟨o, y1, y2⟩ := q
    exact ⟨o, y1, y2.imp (W := W') (W1 := ⟨W'.H, W'.as, fun b => W.F b ∨ b ∈ W'.as⟩) (fun _ _ k1 k2 => ⟨k1, k2⟩) fun _ _ => RpL.fewer hF⟩
  unfold bodyF Ev.bnd at h
  cases q : g (ρ0 N.length ds) sv with
  | none => rw [q] at h; exact h
  | some z =>
    obtain ⟨z, s'⟩ := z
    rw [q] at h
    cases z with
    | err ex =>
      intro W' n st' cls d hE
      obtain ⟨W'', e1, n2, st2, rr⟩ := back W' s' n st'
      have h' : ∀ W', Nxt W W' → StOk K W' s' → ∀ cls d, ErrOk K cv W' ex cls d → E cls d W'.H := h
      have hE' : ErrOk K cv W'' ex cls d := by
        obtain ⟨c1, c2⟩ := hE
        refine ⟨c1, ?_⟩
        cases hp : ex.p with
        | none => rw [hp] at c2; exact c2
        | some fx =>
          obtain ⟨ff, x⟩ := fx
          rw [hp] at c2
          obtain ⟨a, v, y1, y2, y3, y4⟩ := c2
          exact ⟨a, v, y1, by rw [e1]; exact y2, y3, rr x v y3 y4⟩
      have := h' W'' n2 st2 cls d hE'
      rw [e1] at this
      exact this
    | ok y =>
      cases y with
      | nx ρ' =>
        intro σ' W' at' _
        obtain ⟨W'', e1, n2, st2, rr⟩ := back W' s' at'.fr.nx at'.st
        have h' : ∀ W', Nxt W W' → StOk K W' s' → ∀ v, Rp K W' .non v → Q v W'.H := h
        have := h' W'' n2 st2 .non .non
        rw [e1] at this
        exact this
      | ret d =>
        intro W' n st' v ok rv
        obtain ⟨W'', e1, n2, st2, rr⟩ := back W' s' n st'
        have h' : ∀ W', Nxt W W' → StOk K W' s' → ∀ v, Rp K W' d v → Q v W'.H := h
        have := h' W'' n2 st2 v (rr d v ok rv)
        rw [e1] at this
        exact this
end Ev

namespace Ev
open PySem PySem.Spec PyProof.Rows L2 HT
section
variable {prog : Program} {w : World} {A : Around} {E : Value → Shared → Prop} {s : Shared}
theorem sliceApplied_rev {sl : Addr} {vl vu vs : Value} {n : Nat} {Q : Int × Int × Nat → Shared → Prop} (hs : s.heap.IsSliceOf sl vl vu vs) (pl : IsPart vl none) (pu : IsPart vu none) (ps : IsPart vs (some (-1)))
    (h : Q ((n : Int) - 1, -1, n) s) : wpAny (model prog w) A (Builtin.Slice.sliceApplied (.ref sl) (pure (n : Int))) Q E s := by
  obtain ⟨os, hos, hcs, hds⟩ := id hs
  unfold Builtin.Slice.sliceApplied Builtin.Slice.sliceFields
  refine wpAny_bind (wpAny_bind (wpAny_field hos hds (x := vl) rfl (wpAny_bind (wpAny_field hos hds (x := vu) rfl (wpAny_bind (wpAny_field hos hds (x := vs) rfl (wpAny_pure ?_)))))))
  refine wpAny_bind (slicePart_ ps ?_)
  show wpAny _ _ (if ((-1 : Int) == 0) = true then _ else _) _ _ s
  rw [if_neg (by decide)]
  refine wpAny_bind (slicePart_ pl (wpAny_bind (slicePart_ pu (wpAny_bind (wpAny_pure ?_)))))
  show wpAny _ _ (pure ((n : Int) - 1, (-1 : Int), Builtin.Slice.slicePlaces ((n : Int) - 1) (-1) (-1))) _ _ s
  have e : Builtin.Slice.slicePlaces ((n : Int) - 1) (-1) (-1) = n := by
    unfold Builtin.Slice.slicePlaces
    rw [if_neg (by decide)]
    by_cases hn : (n : Int) - 1 > -1
    · rw [if_pos hn]
      have : ((n : Int) - 1 - -1 - 1) / - -1 + 1 = n := by
        have h1 : (- -1 : Int) = 1 := rfl
        rw [h1, Int.ediv_one]; omega
      rw [this]; simp
    · rw [if_neg hn]
      have : n = 0 := by omega
      subst this; rfl
  rw [e]
  exact wpAny_pure h
theorem fmap_congr {α β : Type} {f g : α → Option β} : ∀ {l : List α}, (∀ m ∈ l, f m = g m) → l.filterMap f = l.filterMap g
  | [], _ => rfl
  | a :: l, h => by
    rw [List.filterMap_cons, List.filterMap_cons, h a (List.mem_cons_self ..), fmap_congr fun m hm => h m (List.mem_cons_of_mem _ hm)]
theorem rev_all {α : Type} (l : List α) : (List.range l.length).filterMap (fun (m : Nat) => l[((l.length : Int) - 1 + (m : Int) * -1).toNat]?) = l.reverse := by
  have h1 : (List.range l.length).filterMap (fun (m : Nat) => l[((l.length : Int) - 1 + (m : Int) * -1).toNat]?) = (List.range l.length).filterMap (fun (m : Nat) => l.reverse[m]?) := by
    apply fmap_congr
    intro m hm
    have hm := List.mem_range.mp hm
    rw [List.getElem?_reverse hm]
    congr 1
    omega
  rw [h1]
  have h2 : ∀ r : List α, (List.range r.length).filterMap (fun (m : Nat) => r[m]?) = r := by
    intro r
    have := PySem.W.krv_all r.toArray
    simpa using this
  have h3 := h2 l.reverse
  rw [List.length_reverse] at h3
  exact h3
theorem pick_rev (xs : Array Value) : ((List.range xs.size).filterMap fun (m : Nat) => xs[((xs.size : Int) - 1 + (m : Int) * -1).toNat]?).toArray = xs.toList.reverse.toArray := by
  have := rev_all xs.toList
  simp only [Array.length_toList, Array.getElem?_toList] at this
  rw [this]
theorem getItem_tuple_rev {t sl : Addr} {items : Array Value} {vl vu vs : Value} {Q : Value → Shared → Prop} (ht : IsTup s.heap t items) (hs : s.heap.IsSliceOf sl vl vu vs) (pl : IsPart vl none) (pu : IsPart vu none) (ps : IsPart vs (some (-1)))
    (h : Q (.ref s.heap.objs.size) { s with heap := s.heap.push { cls := .type "tuple", data := .seq items.toList.reverse.toArray } })
    (hsz : items.size ≤ sizeLine) : wpAny (model prog w) A (getItem (.ref t) (.ref sl)) Q E s := by
  have htake : sizeOk (.seq items.toList.reverse.toArray) := by
    show items.toList.reverse.toArray.size ≤ sizeLine
    rw [List.size_toArray, List.length_reverse, Array.length_toList]
    omega
  obtain ⟨os, hos, hcs, hds⟩ := id hs
  have hTs : s.TypeIs (.ref sl) "slice" := ⟨os, hos, hcs⟩
  unfold getItem
  try with_reducible refine wpAny_holding ?_
  first | refine wpAny_bind (wpAny_pure ?_) | skip
  refine wpAny_bind (wpAny_sequenceKey ht.typeIs (by decide) ?_)
  refine wpAny_bind (wpAny_callSpecial?_slot (name := Str.ofString "__getitem__") ht.typeIs PyProof.Rows.slot_tuple_getitem
    (wpAny_call_entry PyProof.Rows.slot_tuple_getitem ht.typeIs entry_tuple_getitem ?_ (args_tuple_getitem _ _)))
  show wpAny _ _ (Builtin.Tuple.tupleItemsOf (.ref t) >>= _) _ _ s
  refine wpAny_bind (tupleItemsOf_ ht ?_)
  refine wpAny_bind (wpAny_typeOf hTs ?_)
  rw [if_pos (by decide)]
  refine wpAny_bind (sliceApplied_rev hs pl pu ps ?_)
  have hno : ¬ ((((items.size : Int) - 1) == 0 && (-1 : Int) == 1 && items.size == items.size) = true) := by
    intro q
    rw [Bool.and_eq_true, Bool.and_eq_true] at q
    exact absurd q.1.2 (by decide)
  show wpAny _ _ (if (((items.size : Int) - 1) == 0 && (-1 : Int) == 1 && items.size == items.size) = true then _ else _) _ _ s
  rw [if_neg hno, pick_rev]
  first
    | exact wpAny_bind (m := Builtin.Tuple.tupleExact _) (wpAny_newObj_type (wpAny_pure ⟨_, rfl, wpAny_pure h⟩) htake)
    | exact wpAny_bind (m := Builtin.Tuple.tupleExact _) (wpAny_newObj_type (wpAny_bind (wpAny_pure (wpAny_pure ⟨_, rfl, wpAny_pure h⟩))) htake)
    | exact wpAny_bind (wpAny_bind (m := Builtin.Tuple.tupleExact _) (wpAny_newObj_type (wpAny_pure (wpAny_pure ⟨_, rfl, wpAny_pure h⟩)) htake))
    | exact wpAny_bind (wpAny_bind (m := Builtin.Tuple.tupleExact _) (wpAny_newObj_type (wpAny_pure ⟨_, rfl, wpAny_pure h⟩) htake))
end
section
variable {X : Cx} {cv : Nat → Value} {wx : WX} {a : Expr} {fa : Env → M D} {pos : Pos}
def tRevD (K : PySem.W.Frag) (te : TE) : TE := fun σ H Q => te σ H fun x H1 => ∃ a xs, x = .ref a ∧ ((SqL K H1 a xs ∧ ∀ p, H1 p = none → Q (.ref p) (upd H1 p (.lst xs.reverse))) ∨ (SqT K H1 a xs ∧ ∀ p o, o.dict = none → H1 p = none → Q (.ref p) (upd H1 p (.frz o (.tup xs.reverse)))))
theorem pe_revD {e : Expr} {te : TE} {k : Nat} {p1 p2 p3 pos : Pos} (he : PE X e te) : PE X (.Subscript e (.Slice none none (some (.UnaryOp .USub (.Constant (.int 1) k p1) p2)) p3) pos) (tRevD X.K te) := by
  refine ⟨fun pins s σ H Q I h => ?_⟩
  refine Subscript_ (thn (he.run pins s σ H _ I h) fun v s1 ⟨x, H1, I1, r1, q1⟩ => ?_)
  obtain ⟨a, xs, ex, hq⟩ := q1
  subst ex
  cases r1
  have hst : PO X (some (.UnaryOp .USub (.Constant (.int 1) k p1) p2)) (tPart (tUn (rU fun i => .int (-i)) (tC (.int 1)))) := po_some (pe_un un_neg pe_int)
  refine wpAny_Slice (thn (po_none.run pins s1 σ H1 (fun o H2 => o = none ∧ H2 = H1) I1 ⟨rfl, rfl⟩) fun vl s2 ⟨l, H2, I2, pl, el, e2⟩ => ?_)
  subst el e2
  refine thn (po_none.run pins s2 σ H2 (fun o H3 => o = none ∧ H3 = H2) I2 ⟨rfl, rfl⟩) fun vu s3 ⟨u, H3, I3, pu, eu, e3⟩ => ?_
  subst eu e3
  refine thn (hst.run pins s3 σ H3 (fun o H4 => o = some (-1) ∧ H4 = H3) I3 ⟨1, rfl, -1, rfl, rfl, rfl⟩) fun vs s4 ⟨o, H4, I4, ps, eo, e4⟩ => ?_
  subst eo e4
  have I5 : Inv X pins σ H4 { s4 with heap := s4.heap.push { cls := .type "slice", data := .fields #[vl, vu, vs] } } := I4.kept (t' := s4.toks) fun b ob q => Heap.get?_push_of_some _ q
  show wpAny (model X.prog X.w) X.A (subscriptTail e (.Slice none none (some (.UnaryOp .USub (.Constant (.int 1) k p1) p2)) p3) (.ref a) (.ref s4.heap.objs.size)) (EP X pins σ Q) X.xe { s4 with heap := s4.heap.push { cls := .type "slice", data := .fields #[vl, vu, vs] } }
  rcases hq with ⟨hx, q⟩ | ⟨hx, q⟩
  · obtain ⟨its, r, ht, hz⟩ := I5.list hx
    have hlen := r.length
    refine tail_any (ops := [.ref a, .ref s4.heap.objs.size]) ht.isList.typeIs (PySem.slot_list_getitem.lookup) ?_ (by with_unfolding_all rfl)
    refine wpAny_getItem_list_slice ht.isList (Heap.IsSliceOf.new _ vl vu vs) pl pu ps (by decide) ?_ (by rw [List.size_toArray]; omega)
    rw [PySem.W.krv_pick]
    refine ⟨.ref _, _, I5.laid (t' := s4.toks) (o := .lst xs.reverse) (fun b ob q => Heap.get?_push_of_some _ q) (Nat.le_refl _) ?_, rfl, q _ (I5.hok.fresh (Nat.le_refl _))⟩
    exact ⟨by rw [List.length_reverse]; exact hz, _, 0, r.reverse, Heap.get?_push_size _ rfl⟩
  · obtain ⟨its, r, ht, hz⟩ := I5.tuple hx
    have hlen := r.length
    refine tail_any (ops := [.ref a, .ref s4.heap.objs.size]) ht.typeIs (PyProof.Rows.slot_tuple_getitem.lookup) ?_ (by with_unfolding_all rfl)
    refine getItem_tuple_rev ht (Heap.IsSliceOf.new _ vl vu vs) pl pu ps ?_ (by rw [List.size_toArray]; omega)
    exact laidX (t1 := s4.toks) I5 (by rw [List.length_reverse]; exact hz) r.reverse q
theorem e_rev {k : Nat} {p1 p2 p3 : Pos} (ha : EvE X cv wx a fa) : EvE X cv wx (.Subscript a (.Slice none none (some (.UnaryOp .USub (.Constant (.int 1) k p1) p2)) p3) pos) fun ρ => bnd (fa ρ) fun x => ofO (uop .rev x) := by
  refine PE.imp (pe_revD ha) fun σ H Q ⟨ρ, s, W0, W, e, at_, h⟩ => ?_
  refine ⟨ρ, s, W0, W, e, at_, h.bnd.mono fun x W1 s1 n1 st1 h1 u ru => ?_⟩
  obtain ⟨d, e2, h3⟩ := h1.ofO
  have lst : ∀ l, x.lst? = some l → some (D.lst l.reverse) = some d → ∃ a xs, u = .ref a ∧ ((SqL X.K W1.H a xs ∧ ∀ p, W1.H p = none → Q (.ref p) (upd W1.H p (.lst xs.reverse))) ∨ (SqT X.K W1.H a xs ∧ ∀ p o, o.dict = none → W1.H p = none → Q (.ref p) (upd W1.H p (.frz o (.tup xs.reverse))))) := by
    intro l hl e
    cases e
    obtain ⟨a, xs, rfl, q1, z1, r1⟩ := lst_of hl ru
    refine ⟨a, xs, rfl, .inl ⟨.inl q1, fun p hp => ?_⟩⟩
    exact h3 _ (Nxt.new st1 hp) (st1.new hp) _ (Rp.newL st1 hp (by rw [List.length_reverse]; exact z1) r1.reverse)
  cases x with
  | tup l =>
    cases e2
    cases ru with | @tup a xs _ g z r =>
    refine ⟨a, xs, rfl, .inr ⟨g.t, fun p o ho hp => ?_⟩⟩
    exact h3 _ (Nxt.new st1 hp) (st1.new hp) _ (Rp.newT st1 ho hp (by rw [List.length_reverse]; exact z) r.reverse)
  | lst l => exact lst l rfl e2
  | own l => exact lst l rfl e2
  | _ => cases e2
end
end Ev

namespace Ev
open PySem PySem.Spec PyProof.Rows L2
/-- enumerate(v): its two new cells -/
theorem meets_enu1 {v : Value} {o : Obj} {G : Heap → Prop} (B : Begins v o G) :
    Meets (Builtin.«enumerate.__new__» ⟨[.type "enumerate", v], []⟩) (fun _ R s => G s.heap ∧ R (.ok (.ret (.ref (s.heap.push o).objs.size)))
      { s with heap := (s.heap.push o).push { cls := .type "enumerate", data := .fields #[.none, .bool false, .ref s.heap.objs.size, rawInt 0, .none, .none] } }) :=
  .of_wp fun prog w A R s hh => by
    obtain ⟨hp, g, d, tk, os⟩ := s
    obtain ⟨hG, hR⟩ := hh
    have sub := sub_enumerate
    have it1 : ∀ {A2 : Around} {E : Value → Shared → Prop} {Q : Value → Shared → Prop}, Q (.ref hp.objs.size) ⟨hp.push o, g, d, tk, os⟩ → wpAny (model prog w) A2 (pyIter v) Q E ⟨hp, g, d, tk, os⟩ := fun q => B.iter prog w _ _ _ _ hG q
    wp_walk using it1
    refine wpAny_stack_any fun st => wpAny_pure ?_
    split
    · rename_i cl _ _ _ _ _
      cases (cl == Value.type "enumerate")
      all_goals (wp_walk using it1; exact ⟨_, rfl, hR⟩)
    · (wp_walk using it1; exact ⟨_, rfl, hR⟩)
theorem call_enu1 {prog : Program} {w : World} {A : Around} {E : Value → Shared → Prop} {s : Shared} {v : Value} {o : Obj} {G : Heap → Prop} {Q : Value → Shared → Prop} (B : Begins v o G) (hG : G s.heap)
    (hQ : ∀ h2, IsEnum h2 (s.heap.objs.size + 1) s.heap.objs.size 0 .none → h2.get? s.heap.objs.size = some o → (∀ b ob, s.heap.get? b = some ob → h2.get? b = some ob) → Q (.ref (s.heap.objs.size + 1)) { s with heap := h2 }) :
    wpAny (model prog w) A (call (.type "enumerate") [v]) Q E s := by
  have hz : (s.heap.push o).objs.size = s.heap.objs.size + 1 := Heap.size_push ..
  refine callType_new F.called_enumerate (by decide) (F.typeCall_enumerate_1 _) (F.newCall_enumerate_1 _) (fun obj => F.args_object_init_2 obj _) F.entry_enumerate_new (meets_enu1 B) ⟨hG, ?_⟩
  show _ ∧ _
  rw [hz]
  have top := Heap.get?_push_size (s.heap.push o) (o := { cls := .type "enumerate", data := .fields #[.none, .bool false, .ref s.heap.objs.size, rawInt 0, .none, .none] }) rfl
  rw [hz] at top
  exact ⟨⟨_, top, rfl⟩, hQ _ top (Heap.get?_push_of_some _ (Heap.get?_push_size _ B.free)) fun b ob e => Heap.get?_push_of_some _ (Heap.get?_push_of_some _ e)⟩
theorem enu_endT {prog : Program} {w : World} {A : Around} {E : Value → Shared → Prop} {s : Shared} {e it a : Addr} {i : Int} {j : Nat} {items : Array Value} {old : Value} {Q : Option Value → Shared → Prop} (hd : A.handled = none) (he : IsEnum s.heap e it i old)
    (hit : s.heap.IsTupleIter it a j) (ht : s.heap.IsTuple a items) (hx : items[j]? = none) (hQ : ∀ h2, Heap.ExtBut it s.heap h2 → Q none { s with heap := h2 }) : wpAny (model prog w) A (pyNext (.ref e)) Q E s := by
  have hT : s.TypeIs (.ref e) "enumerate" := ⟨_, he, rfl⟩
  unfold pyNext
  refine wpAny_bind (wpAny_attempt (wpAny_callSpecial?_slot (name := Str.ofString "__next__") hT F.slot_enumerate_next (wpAny_call_entry F.slot_enumerate_next hT F.entry_enumerate_next ?_ (F.args_enumerate_next_1 _))))
  show wpAny _ _ (field (.ref e) 2 >>= _) _ _ _
  refine wpAny_bind (wpAny_field he rfl (x := .ref it) rfl ?_)
  refine wpAny_bind (wpAny_nextOf_tuple_end (A := A.in1) hd hit ht hx fun h2 x eb hx2 => ?_)
  obtain ⟨o, ho, hcl⟩ := hx2
  exact wpAny_bind (wpAny_isInstance (T := "StopIteration") (b := true) ⟨o, ho, hcl⟩ isSubtype_stop (wpAny_pure (hQ _ eb)))
/-- the tuple at a, each item in a new pair with its place -/
def ItE (K : PySem.W.Frag) (a : Addr) : It :=
  ⟨fun i H => ∃ (xs : List V) (x : V), SqT K H a xs ∧ xs[i]? = some x, fun i H v H2 => ∃ p x, v = .ref p ∧ H p = none ∧ H2 = upd H p (.tup [.int (i : Nat), x]) ∧ ∀ xs, SqT K H a xs → xs[i]? = some x, fun i H => ∃ xs : List V, SqT K H a xs ∧ xs.length ≤ i⟩
theorem turn_enuT {P : Program} {w : World} {K : PySem.W.Frag} {elts : List Expr} {kk : Nat} {tpos : Pos} (a e it : Addr) :
    Turn P w K (.Tuple elts kk tpos) (ItE K a) [e, it] e (fun i h => (∃ old, IsEnum h e it ((i : Nat) : Int) old) ∧ h.IsTupleIter it a i ∧ e ≠ it) where
  mem := List.mem_cons_self ..
  obj := fun i h st b hb => by
    obtain ⟨⟨old, he⟩, ⟨o, ho, hc, hd⟩, _⟩ := st
    rcases List.mem_cons.mp hb with z | hb
    · subst z
      exact ⟨_, he, fun v q => nomatch q⟩
    · rw [List.mem_singleton.mp hb]
      exact ⟨o, ho, fun v q => by rw [hd] at q; cases q⟩
  keep := fun i h h2 st k => by
    obtain ⟨⟨old, he⟩, hit, hne⟩ := st
    exact ⟨⟨old, k e (List.mem_cons_self ..) _ he⟩, hit.at fun o q => k it (by simp) o q, hne⟩
  item := by
    intro X hP hw hK hc i pins s σ H E I hf st hg
    subst hP hw hK
    obtain ⟨⟨old, he⟩, hit, hne⟩ := st
    obtain ⟨xs, x, hq, hx⟩ := hg
    obtain ⟨its, rv, p, hz⟩ := I.tuple hq
    obtain ⟨u, hu, ru⟩ := rv.get hx
    have eS : e < s.heap.objs.size := Heap.lt_size he
    have iS : it < s.heap.objs.size := by
      obtain ⟨_, q, _⟩ := hit
      exact Heap.lt_size q
    have ea : e ≠ a := fun z => by
      obtain ⟨o, ho, hoc, _⟩ := p
      rw [← z] at ho
      have he' : s.heap.get? e = _ := he
      rw [he'] at ho
      cases ho
      exact absurd (Value.type.inj hoc) (by decide)
    have ia : a ≠ it := fun z => by
      obtain ⟨o, ho, hoc, _⟩ := p
      obtain ⟨o2, ho2, hc2, _⟩ := hit
      rw [z, ho2] at ho
      cases ho
      rw [hc2] at hoc
      exact absurd (Value.type.inj hoc) (by decide)
    have hd := I.ok.hd hc
    have D := Draws.tuple (prog := X.prog) (w := X.w) (A := X.A.in1) hd it a ia its.toArray
    have hlt : i < its.toArray.size := by
      have := (List.getElem?_eq_some_iff.mp hu).1
      simpa using this
    refine wpAny_pyNext_enum_itemC D he ⟨hit, p⟩ hlt hne (fun z => by
      rcases List.mem_cons.mp z with z | z
      · exact hne z
      · exact ea (List.mem_singleton.mp z)) fun y h2 tk hy ho st2 hT hsz hk => ?_
    have ey : y = u := by
      have hy' : its.toArray[i]? = some y := hy
      have hu' : its.toArray[i]? = some u := by simpa using hu
      rw [hu'] at hy'
      cases hy'
      rfl
    subst ey
    refine ⟨_, rfl, wpAny_letOwnedTupleGo_enum (s := { s with heap := h2, toks := tk + 1 }) ho fun h3 he3 sb => ?_⟩
    have hT3 : h3.get? s.heap.objs.size = some { cls := .type "tuple", data := .seq #[.int i tk, y] } := (sb.2 _ (Nat.ne_of_gt eS)).trans hT
    have new : ObjOk X.prog X.w (upd H s.heap.objs.size (.tup [.int (i : Nat), x])) h3 s.heap.objs.size (.tup [.int (i : Nat), x]) :=
      ⟨by show 2 ≤ sizeLine; decide, [.int i tk, y], .cons ⟨_, rfl⟩ (.cons ru .nil), ⟨_, hT3, rfl, _, rfl⟩⟩
    have I2 : Inv X pins σ (upd H s.heap.objs.size (.tup [.int (i : Nat), x])) { s with heap := h3, toks := tk + 1 } :=
      I.turnedNew (ch := [e, it]) (fun b ob hb q => (sb.2 b (fun z => hb (by rw [z]; exact List.mem_cons_self ..))).trans (hk b ob (fun z => hb (by rw [z]; exact List.mem_cons_self ..)) (fun z => hb (by rw [z]; simp)) q)) hf (Nat.le_refl _) new
    refine ⟨.ref s.heap.objs.size, _, I2, rfl, ⟨_, x, rfl, I.hok.fresh (Nat.le_refl _), rfl, fun ys hy2 => by rw [I.tuple_inj hy2 hq]; exact hx⟩, ⟨⟨y, ?_⟩, st2.1.at fun o q => (sb.2 it (Ne.symm hne)).trans q, hne⟩, fun b hb => ?_⟩
    · have e1 : ((i + 1 : Nat) : Int) = (i : Int) + 1 := by omega
      rw [e1]; exact he3
    · have hb2 : b < s.heap.objs.size := by
        rcases List.mem_cons.mp hb with z | hb
        · rw [z]; exact eS
        · rw [List.mem_singleton.mp hb]; exact iS
      rw [upd_ne (Nat.ne_of_lt hb2)]
      exact (hf b hb).1
  done := by
    intro X hP hw hK hc i pins s σ H E I hf st hg
    subst hP hw hK
    obtain ⟨⟨old, he⟩, hit, hne⟩ := st
    obtain ⟨xs, hq, hx⟩ := hg
    obtain ⟨its, rv, p, hz⟩ := I.tuple hq
    obtain ⟨f0, f1, f2, f3, f4, f5⟩ := hf it (by simp)
    have ln := rv.length
    have hd := I.ok.hd hc
    exact enu_endT hd he hit p (by simp; omega) fun h2 eb => ⟨rfl, I.turned (t' := s.toks) (fun b o hb q => eb b o hb q) f0 f1 f3 f4 f5⟩
  self := fun A i s Q E st h => by
    obtain ⟨⟨_, he⟩, _⟩ := st
    exact wpAny_pyIter_enum he h
def iEnuA (K : PySem.W.Frag) (ta : TA) : TI := fun σ H R => ta σ H fun vs H1 => ∃ a xs, vs = [.ref a] ∧ ((SqL K H1 a xs ∧ R (Ite K a) H1) ∨ (SqT K H1 a xs ∧ R (ItE K a) H1))
theorem pi_enuA {X : Cx} {e : Expr} {ta : TA} {p pos tpos : Pos} {elts : List Expr} {kk : Nat} (hg : Gl X "enumerate") (hm : X.mg "enumerate" = none) (ha : PA X [e] ta) (hs : starEach [e] X.env = [(false, eval e X.env)]) :
    PI X (.Tuple elts kk tpos) (.Call (.Name "enumerate" p) [e] [] pos) (iEnuA X.K ta) := by
  refine ⟨fun pins s σ H R I h => ?_⟩
  refine Call_ (ld_blt I hg hm boot_enumerate (PyProof.Rows.callWith_type1 (thn (ha.run pos pins s σ H _ I h) fun us s1 ⟨vs, H1, I1, r1, q1⟩ => ?_) hs rfl))
  obtain ⟨a, xs, ex, q⟩ := q1
  subst ex
  cases r1 with
  | cons r rr =>
    cases rr
    cases r
    have fp : ∀ b ∈ [s1.heap.objs.size + 1, s1.heap.objs.size], s1.heap.objs.size ≤ b := fun b hb => by
      rcases List.mem_cons.mp hb with z | hb
      · rw [z]; exact Nat.le_add_right _ _
      · rw [List.mem_singleton.mp hb]; exact Nat.le_refl _
    rcases q with ⟨hq, q⟩ | ⟨hq, q⟩
    · obtain ⟨its, rv, p2, hz⟩ := I1.list hq
      refine call_enumerate_list p2.isList fun h2 he hit hsz hk => wpAny_pyIter_enum he ?_
      have I2 : Inv X pins σ H1 { s1 with heap := h2 } := I1.kept (t' := s1.toks) hk
      exact ⟨s1.heap.objs.size + 1, [s1.heap.objs.size + 1, s1.heap.objs.size], _, _, H1, rfl, I2, turn_enum a (s1.heap.objs.size + 1) s1.heap.objs.size, ⟨⟨.none, he⟩, hit, Nat.succ_ne_self _⟩, fun b hb => I1.fpOk (fp b hb) (I1.hok.fresh (fp b hb)), q⟩
    · obtain ⟨its, rv, p2, hz⟩ := I1.tuple hq
      refine call_enu1 (begins_tuple a its.toArray) p2 fun h2 he hit hk => wpAny_pyIter_enum he ?_
      have I2 : Inv X pins σ H1 { s1 with heap := h2 } := I1.kept (t' := s1.toks) hk
      exact ⟨s1.heap.objs.size + 1, [s1.heap.objs.size + 1, s1.heap.objs.size], _, _, H1, rfl, I2, turn_enuT a (s1.heap.objs.size + 1) s1.heap.objs.size, ⟨⟨.none, he⟩, ⟨_, hit, rfl, rfl⟩, Nat.succ_ne_self _⟩, fun b hb => I1.fpOk (fp b hb) (I1.hok.fresh (fp b hb)), q⟩
end Ev

namespace Ev
open PySem PySem.Spec PyProof.Rows L2
open SX (S S_cat S_len S_inj S_tl)
section
variable {K : PySem.W.Frag} {W W' : Wd} {s s' : Store} {p : Addr}
/-- the world in which the object at p has become a cell -/
abbrev celW (W : Wd) (p : Addr) (o : HO) : Wd := { H := upd W.H p o, as := W.as ++ [p], F := fun b => W.F b ∨ b = p }
mutual
theorem Rp.toC {o : HO} (hp : W.H p = some (.dK [])) : ∀ {d : D} {v : V}, Rp K W d v → Rp K (celW W p o) d v
  | _, _, .non => .non
  | _, _, .bl b => .bl b
  | _, _, .int i => .int i
  | _, _, .str s h z => .str s h z
  | _, _, .tup g z r => .tup (upd_sqX hp ntf_dK g) z (RpL.toC hp r)
  | _, _, .pr g o1 o2 r1 r2 => .pr (upd_sqT hp ntf_dK g) o1 o2 (Rp.toC hp r1) (Rp.toC hp r2)
  | _, _, .lst (a := a) g nf z r => by
    have na : a ≠ p := fun e => by
      rw [e] at g
      rcases g with g | ⟨ob, g⟩ <;> (rw [hp] at g; cases g)
    refine .lst ?_ (fun q => q.elim nf na) z (RpL.toC hp r)
    rcases g with g | ⟨ob, g⟩
    · exact .inl (by show upd W.H p o _ = _; rw [upd_ne na]; exact g)
    · exact .inr ⟨ob, by show upd W.H p o _ = _; rw [upd_ne na]; exact g⟩
  | _, _, .own (a := a) g f na z r => by
    have ne : a ≠ p := fun e => by rw [e, hp] at g; cases g
    refine .own (by show upd W.H p o _ = _; rw [upd_ne ne]; exact g) (.inl f) (fun q => ?_) z (RpL.toC hp r)
    rcases List.mem_append.mp q with q | q
    · exact na q
    · exact ne (List.mem_singleton.mp q)
  | _, _, .ref (n := n) g => .ref (by
    show (W.as ++ [p])[n]? = _
    rw [List.getElem?_append_left (List.getElem?_eq_some_iff.mp g).1]
    exact g)
theorem RpL.toC {o : HO} (hp : W.H p = some (.dK [])) : ∀ {ds : List D} {vs : List V}, RpL K W ds vs → RpL K (celW W p o) ds vs
  | _, _, .nil => .nil
  | _, _, .cons ok g r => .cons ok (Rp.toC hp g) (RpL.toC hp r)
end
theorem StOk.toC {c : Cell} {o : HO} (st : StOk K W s) (hp : W.H p = some (.dK [])) (pn : p ∉ W.as) (r : CoOk K (celW W p o) c o) : StOk K (celW W p o) (s ++ [c]) := by
  refine ⟨by rw [List.length_append, List.length_append, st.len]; rfl, ?_, fun a ha => ?_, fun a ha => ?_, fun i c' a h1 h2 => ?_, fun i p h => ⟨st.tabS i p h _, st.tabA i p h _⟩⟩
  · rw [List.nodup_append]
    exact ⟨st.nd, by simp, fun a ha b hb => by rw [List.mem_singleton.mp hb]; exact fun z => pn (by rw [← z]; exact ha)⟩
  · rcases List.mem_append.mp ha with z | z
    · exact .inl (st.inF a z)
    · exact .inr (List.mem_singleton.mp z)
  · show upd W.H p o a ≠ none
    by_cases e : a = p
    · rw [e, upd_same]; simp
    · rw [upd_ne e]
      exact st.tr a (ha.elim id fun z => absurd z e)
  · by_cases hi : i < s.length
    · rw [List.getElem?_append_left hi] at h1
      have h2' : W.as[i]? = some a := by
        have : (W.as ++ [p])[i]? = some a := h2
        rw [List.getElem?_append_left (by rw [← st.len]; exact hi)] at this
        exact this
      obtain ⟨o1, q1, q2⟩ := st.cell i c' a h1 h2'
      have na : a ≠ p := fun z => pn (by rw [← z]; exact List.mem_of_getElem? h2')
      exact ⟨o1, by show upd W.H p o a = _; rw [upd_ne na]; exact q1, q2.imp (fun cc qq k1 k2 => by
        have ne : cc ≠ p := fun e => by rw [e, hp] at k2; cases k2
        refine ⟨fun z => ?_, by show upd W.H p o cc = _; rw [upd_ne ne]; exact k2⟩
        rcases List.mem_append.mp z with z | z
        · exact k1 z
        · exact ne (List.mem_singleton.mp z)) fun _ _ => RpL.toC hp⟩
    · have hi2 : i = s.length := by
        have : i < (s ++ [c]).length := (List.getElem?_eq_some_iff.mp h1).1
        rw [List.length_append] at this
        simp at this
        omega
      subst hi2
      have e1 : (s ++ [c])[s.length]? = some c := by simp
      rw [e1] at h1; cases h1
      have e2 : (W.as ++ [p])[s.length]? = some p := by rw [st.len]; simp
      have h2' : (W.as ++ [p])[s.length]? = some a := h2
      rw [e2] at h2'; cases h2'
      exact ⟨o, upd_same, r⟩
theorem Nxt.toC {o : HO} (st : StOk K W s) (hp : W.H p = none) (n : Nxt (W.new p (.dK [])) W') : Nxt W (celW W' p o) where
  kp := fun b u h nb => by
    have ne : b ≠ p := ne_of_none h hp
    show upd W'.H p o b = _
    rw [upd_ne ne]
    exact n.kp b u (by show upd W.H p _ b = _; rw [upd_ne ne]; exact h) nb
  tp := fun b u h => by
    have ne : b ≠ p := ne_of_none h hp
    show upd W'.H p o b = _
    rw [upd_ne ne]
    exact n.tp b u (by show upd W.H p _ b = _; rw [upd_ne ne]; exact h)
  fz := fun b u x h => by
    have ne : b ≠ p := ne_of_none h hp
    show upd W'.H p o b = _
    rw [upd_ne ne]
    exact n.fz b u x (by show upd W.H p _ b = _; rw [upd_ne ne]; exact h)
  pre := n.pre.trans ⟨[p], rfl⟩
  fF := fun b hb => .inl (n.fF b hb)
  fN := fun b hb => by
    by_cases e : b = p
    · exact .inr (by rw [e]; exact hp)
    · rcases n.fN b (hb.elim id fun z => absurd z e) with z | z
      · exact .inl z
      · exact .inr (by have : upd W.H p (.dK []) b = none := z; rw [upd_ne e] at this; exact this)
  aN := fun b hb => by
    by_cases e : b = p
    · exact .inr (by rw [e]; exact hp)
    · rcases List.mem_append.mp hb with hb | hb
      · rcases n.aN b hb with z | z
        · exact .inl z
        · exact .inr (by have : upd W.H p (.dK []) b = none := z; rw [upd_ne e] at this; exact this)
      · exact absurd (List.mem_singleton.mp hb) e
end
section
variable {X : Cx} {cv : Nat → Value} {wx : WX} {a b c : Expr} {fa fb fc : Env → M D} {fl : Env → M (List D)} {pos apos p : Pos}
def tP (K : PySem.W.Frag) (cv : Nat → Value) (wx : WX) (f : Env → M (List D)) (ks : List Kd) : L2.St → Hp → (List (V × V) → Hp → Prop) → Prop := fun σ H Q => ∃ ρ s W0 W, W.H = H ∧ At K σ ρ s W0 W ∧ Aft K cv W σ wx (f ρ s) fun ds W' _ => ∀ vs, RpL K W' ds vs → Q ((ks.map fun k => kV (toK k)).zip vs) W'.H
theorem dmk_rp {K : PySem.W.Frag} {W : Wd} : ∀ {ks : List Kd} {ds : List D} {vs : List V} {kvs : List (Kd × D)} {ps : List (Key × V)}, (∀ k ∈ ks, kdOk k = true) → RpL K W ds vs → ps.map (·.1) = kvs.map (fun p => toK p.1) → RpL K W (kvs.map (·.2)) (ps.map (·.2)) → (∀ p ∈ kvs, kdOk p.1 = true) →
    (mergeK ps ((ks.map toK).zip vs)).map (·.1) = ((ks.zip ds).foldl (fun acc p => dPut acc p.1 p.2) kvs).map (fun p => toK p.1) ∧ RpL K W (((ks.zip ds).foldl (fun acc p => dPut acc p.1 p.2) kvs).map (·.2)) ((mergeK ps ((ks.map toK).zip vs)).map (·.2)) ∧
    (∀ p ∈ (ks.zip ds).foldl (fun acc p => dPut acc p.1 p.2) kvs, kdOk p.1 = true) ∧ ((ks.zip ds).foldl (fun acc p => dPut acc p.1 p.2) kvs).length ≤ kvs.length + ks.length
  | [], _, _, _, _, _, _, h1, h2, h3 => ⟨h1, h2, h3, Nat.le_refl _⟩
  | k :: ks, _, _, _, _, _, .nil, h1, h2, h3 => ⟨h1, h2, h3, Nat.le_add_right _ _⟩
  | k :: ks, d :: ds, v :: vs, kvs, ps, hk, .cons ok rd r, h1, h2, h3 => by
    obtain ⟨g1, g2⟩ := dput_rp (k := k) h1 h2 ok rd
    have g3 := dput_ok (y := d) h3 (hk k (List.mem_cons_self ..))
    obtain ⟨q1, q2, q3, q4⟩ := dmk_rp (fun x hx => hk x (List.mem_cons_of_mem _ hx)) r g1 g2 g3
    refine ⟨q1, q2, q3, ?_⟩
    have := dput_len (kvs := kvs) (k := k) (y := d)
    show ((ks.zip ds).foldl (fun acc p => dPut acc p.1 p.2) (dPut kvs k d)).length ≤ _
    rw [List.length_cons]
    omega
theorem zip_kv : ∀ (ks : List Kd) (vs : List V), (ks.map fun k => kV (toK k)).zip vs = ((ks.map toK).zip vs).map fun kv => (kV kv.1, kv.2)
  | [], _ => rfl
  | _ :: _, [] => rfl
  | k :: ks, v :: vs => by
    rw [List.map_cons, List.map_cons, List.zip_cons_cons, List.zip_cons_cons, List.map_cons, zip_kv ks vs]
theorem e_dct {keys : List (Option Expr)} {values : List Expr} {trs : List (TE × TE)} {ks : List Kd} (h : PPs X pos keys values trs) (hp : ∀ σ H Q, tP X.K cv wx fl ks σ H Q → tPairs trs σ H Q) (hall : keys.all (·.isSome) = true) (hl : keys.length = values.length) (h0 : keys ≠ [])
    (h15 : keys.length ≤ 15) (hks : ks.length ≤ 15) (hok : ∀ k ∈ ks, kdOk k = true) : EvE X cv wx (.Dict keys values pos) fun ρ => bnd (noE (fl ρ)) fun ds => if ds.length = ks.length then celD (dMk ks ds) else non := by
  refine PE.imp (pe_disp h hall hl h0 h15) fun σ H Q ⟨ρ, s, W0, W, e, at_, hh⟩ => ?_
  intro q hq
  rw [← e] at hq
  refine hp _ _ _ ⟨ρ, s, W0, W.new q (.dK []), by show upd W.H q _ = _; rw [e], at_.next (Nxt.new at_.st hq) (at_.st.new hq), ?_⟩
  have hb : Aft X.K cv W σ wx (bnd (noE (fl ρ)) (fun ds => if ds.length = ks.length then celD (dMk ks ds) else non) s) fun d W' _ => ∀ v, Rp X.K W' d v → Q v W'.H := hh
  unfold Ev.bnd noE at hb
  cases hf : fl ρ s with
  | none => rw [hf] at hb; exact hb.elim
  | some z =>
    obtain ⟨z, s'⟩ := z
    cases z with
    | err x => rw [hf] at hb; exact hb.elim
    | ok ds =>
      rw [hf] at hb
      have hb : Aft X.K cv W σ wx ((if ds.length = ks.length then celD (dMk ks ds) else non) s') fun d W' _ => ∀ v, Rp X.K W' d v → Q v W'.H := hb
      by_cases hz : ds.length = ks.length
      · rw [if_pos hz] at hb
        intro W' n st' vs r
        have hp' : W'.H q = some (.dK []) := n.kp q _ upd_same (fun z => at_.st.trk q z hq)
        have pn : q ∉ W'.as := fun z => by
          rcases n.aN q z with z | z
          · exact at_.st.trk q z hq
          · rw [show (W.new q (.dK [])).H q = some (.dK []) from upd_same] at z; cases z
        have hv : vs.length = ks.length := by rw [← r.length]; exact hz
        refine ⟨hp', (ks.map toK).zip vs, ?_, ?_, ?_⟩
        · exact zip_kv ks vs
        · rw [List.length_zip, List.length_map]; omega
        · obtain ⟨g1, g2, g3, g4⟩ := dmk_rp (K := X.K) (W := celW W' q (.dK (mergeK [] ((ks.map toK).zip vs)))) (kvs := []) (ps := []) hok (RpL.toC hp' r) rfl .nil (fun _ h => by cases h)
          have hc : CoOk X.K (celW W' q (.dK (mergeK [] ((ks.map toK).zip vs)))) (.dct (dMk ks ds)) (.dK (mergeK [] ((ks.map toK).zip vs))) :=
            ⟨Nat.le_trans g4 (by show 0 + ks.length ≤ 16777216; omega), g1, g3, g2⟩
          have := hb _ (Nxt.toC (o := .dK (mergeK [] ((ks.map toK).zip vs))) at_.st hq n) (st'.toC hp' pn hc) (.ref q) (.ref ?_)
          · exact this
          · show (W'.as ++ [q])[s'.length]? = some q
            rw [st'.len]; simp
      · rw [if_neg hz] at hb; exact hb.elim
theorem e_dct0 {Φ : Fun} {C : Nat → Option D} : EvE X cv wx (.Dict [] [] pos) fun ρ => bnd (noE (evL Φ C .nil ρ)) fun ds => if ds.length = ([] : List Kd).length then celD (dMk [] ds) else non := by
  refine PE.imp pe_dnewK fun σ H Q ⟨ρ, s, W0, W, e, at_, h⟩ => ?_
  intro p hp
  subst e
  have h : Aft X.K cv W σ wx (celD [] s) fun d W' _ => ∀ v, Rp X.K W' d v → Q v W'.H := h
  obtain ⟨n2, st2⟩ := at_.st.celNew (c := .dct []) (o := .dK []) hp ⟨Nat.zero_le _, rfl, (fun _ h => by cases h), .nil⟩
  refine h _ n2 st2 _ (.ref ?_)
  show (W.as ++ [p])[s.length]? = some p
  rw [at_.st.len]; simp
theorem e_get2 (hu : X.A.units + 1 < cLine) (m : M2 X a "get" apos b c pos) (ha : EvE X cv wx a fa) (hb : EvE X cv wx b fb) (hc : EvE X cv wx c fc) :
    EvE X cv wx (.Call (.Attribute a "get" apos) [b, c] [] pos) fun ρ => bnd (fa ρ) fun x => bnd (isDct x) fun _ => bnd (fb ρ) fun y => bnd (fc ρ) fun z => getOf x y z := by
  refine PE.imp (pe_dget2 hu ha hb hc m) fun σ H Q ⟨ρ, s, W0, W, e, at_, h⟩ => ?_
  refine ⟨ρ, s, W0, W, e, at_, h.bnd.mono fun x W1 s1 n1 st1 h1 u ru => ?_⟩
  cases x with
  | ref n =>
    cases ru with | @ref _ ad hn =>
    cases hc1 : s1[n]? with
    | none =>
      exfalso
      unfold Ev.bnd isDct at h1
      simp only [hc1] at h1
      exact h1
    | some c1 =>
      cases c1 with
      | lst l =>
        exfalso
        unfold Ev.bnd isDct at h1
        simp only [hc1] at h1
        exact h1
      | tab l =>
        exfalso
        unfold Ev.bnd isDct at h1
        simp only [hc1] at h1
        exact h1
      | dct kvs1 =>
        have h2 : Aft X.K cv W1 σ wx (bnd (fb ρ) (fun y => bnd (fc ρ) fun z => getOf (.ref n) y z) s1) fun d W' _ => ∀ v, Rp X.K W' d v → Q v W'.H := by
          unfold Ev.bnd isDct at h1
          simp only [hc1] at h1
          exact h1
        obtain ⟨ps1, q1, _⟩ := (st1.cell n _ ad hc1 hn).dct
        refine ⟨ad, rfl, .inl ⟨ps1, .inl q1⟩, ρ, s1, W0, W1, rfl, at_.next n1 st1, h2.bnd.mono fun y W2 s2 n2 st2 h3 v rv => ?_⟩
        refine ⟨ρ, s2, W0, W2, rfl, (at_.next n1 st1).next n2 st2, h3.bnd.mono fun z W3 s3 n3 st3 h4 w rw' => ?_⟩
        have rv' := n3.rp st2.inF rv
        have hn3 : W3.as[n]? = some ad := by
          cases (n3.rp st2.inF (n2.rp st1.inF (.ref hn : Rp X.K W1 (.ref n) (.ref ad)))) with | ref g => exact g
        unfold getOf at h4
        cases hc3 : s3[n]? with
        | none => simp only [hc3] at h4; exact h4.elim
        | some c3 =>
          cases c3 with
          | lst l => simp only [hc3] at h4; exact h4.elim
          | tab l => simp only [hc3] at h4; exact h4.elim
          | dct kvs =>
            simp only [hc3] at h4
            cases hk : keyOf y with
            | none => simp only [hk] at h4; exact h4.elim
            | some k =>
              simp only [hk] at h4
              obtain ⟨ps, g1, g2, g3, g4, g5⟩ := (st3.cell n _ ad hc3 hn3).dct
              have hg := dget_rp (k := k) g3 g5
              refine ⟨valV ps (toK k), ?_, ?_⟩
              · rw [kd_rel hk rv']
                exact DGet.k g1
              · cases hd : dGet kvs k with
                | none =>
                  rw [hd] at hg h4
                  have hg : valV ps (toK k) = none := hg
                  rw [hg]
                  exact h4 W3 Nxt.refl st3 _ rw'
                | some d =>
                  rw [hd] at hg h4
                  obtain ⟨w', w1, _, w2⟩ := hg
                  rw [w1]
                  exact h4 W3 Nxt.refl st3 _ w2
  | _ => exact (h1 : False).elim
theorem strs_rp {K : PySem.W.Frag} {W : Wd} : ∀ {l : List D} {ys : List (List Nat)} {vs : List V}, strsOf l = some ys → RpL K W l vs → vs = (ys.map S).map V.str
  | [], _, _, e, r => by cases e; cases r; rfl
  | d :: l, ys, vs, e, r => by
    cases r with | cons ok rd r =>
    cases d with
    | str s =>
      cases e2 : strsOf l with
      | none =>
        have : (strsOf l).map (s :: ·) = some ys := e
        rw [e2] at this; cases this
      | some zs =>
        have : (strsOf l).map (s :: ·) = some ys := e
        rw [e2] at this; cases this
        cases rd
        rw [strs_rp e2 r]
        rfl
    | _ => cases e
theorem seq_rd {K : PySem.W.Frag} {W : Wd} {y : D} {l : List D} {v : V} (e : y.seq? = some l) (r : Rp K W y v) : ∃ q vs, v = .ref q ∧ (SqL K W.H q vs ∨ SqT K W.H q vs) ∧ RpL K W l vs := by
  cases y with
  | tup l' => cases e; cases r with | tup g z r => exact ⟨_, _, rfl, .inr g.t, r⟩
  | lst l' => cases e; cases r with | lst g nf z r => exact ⟨_, _, rfl, .inl (.inl g), r⟩
  | own l' => cases e; cases r with | own g f na z r => exact ⟨_, _, rfl, .inl (.inl (.inl g)), r⟩
  | _ => cases e
theorem e_join (hs : starEach [b] X.env = [(false, eval b X.env)]) (hbase : attributeBase a "join" X.env (eval a X.env) = eval a X.env) (hline : (apos.endLine == pos.line) = true) (ha : EvE X cv wx a fa) (hb : EvE X cv wx b fb) :
    EvE X cv wx (.Call (.Attribute a "join" apos) [b] [] pos) fun ρ => bnd (fa ρ) fun x => bnd (isStrM x) fun _ => bnd (fb ρ) fun y => ofO (bop .join x y) := by
  refine PE.imp (pe_join ha hb hs hbase hline) fun σ H Q ⟨ρ, s, W0, W, e, at_, h⟩ => ?_
  refine ⟨ρ, s, W0, W, e, at_, h.bnd.mono fun x W1 s1 n1 st1 h1 u ru => ?_⟩
  cases x with
  | str t =>
    have h1 : Aft X.K cv W1 σ wx (bnd (fb ρ) (fun y => ofO (bop .join (.str t) y)) s1) fun d W' _ => ∀ v, Rp X.K W' d v → Q v W'.H := h1
    cases ru with | str _ hc hz =>
    refine ⟨⟨_, rfl⟩, ρ, s1, W0, W1, rfl, at_.next n1 st1, h1.bnd.mono fun y W2 s2 n2 st2 h2 v rv => ?_⟩
    obtain ⟨d, e1, h3⟩ := h2.ofO
    have e2 : (y.seq?.bind fun l => (strsOf l).bind fun ys => if (ys.map (·.length)).sum + ys.length * t.length ≤ lim ∧ (TL.joinL t ys).all (· < 0x110000) = true ∧ (TL.joinL t ys).length ≤ lim then some (D.str (TL.joinL t ys)) else none) = some d := e1
    cases hq : y.seq? with
    | none => rw [hq] at e2; cases e2
    | some l =>
      rw [hq] at e2
      cases hy : strsOf l with
      | none =>
        have e3 : ((strsOf l).bind fun ys => if (ys.map (·.length)).sum + ys.length * t.length ≤ lim ∧ (TL.joinL t ys).all (· < 0x110000) = true ∧ (TL.joinL t ys).length ≤ lim then some (D.str (TL.joinL t ys)) else none) = some d := e2
        rw [hy] at e3; cases e3
      | some ys =>
        have e3 : ((strsOf l).bind fun ys => if (ys.map (·.length)).sum + ys.length * t.length ≤ lim ∧ (TL.joinL t ys).all (· < 0x110000) = true ∧ (TL.joinL t ys).length ≤ lim then some (D.str (TL.joinL t ys)) else none) = some d := e2
        rw [hy] at e3
        have e4 : (if (ys.map (·.length)).sum + ys.length * t.length ≤ lim ∧ (TL.joinL t ys).all (· < 0x110000) = true ∧ (TL.joinL t ys).length ≤ lim then some (D.str (TL.joinL t ys)) else none) = some d := e3
        by_cases hcond : (ys.map (·.length)).sum + ys.length * t.length ≤ lim ∧ (TL.joinL t ys).all (· < 0x110000) = true ∧ (TL.joinL t ys).length ≤ lim
        · rw [if_pos hcond] at e4
          cases e4
          obtain ⟨q, vs, rfl, g, r⟩ := seq_rd hq rv
          have ev := strs_rp hy r
          subst ev
          refine ⟨_, q, ys.map S, rfl, rfl, g, ?_, ?_⟩
          · rw [SX.lens, List.length_map, S_len]; exact hcond.1
          · rw [SX.join_S]
            exact h3 W2 Nxt.refl st2 _ (.str _ hcond.2.1 hcond.2.2)
        · rw [if_neg hcond] at e4; cases e4
  | _ => exact (h1 : False).elim
theorem e_split (hs : starEach [b] X.env = [(false, eval b X.env)]) (hbase : attributeBase a "split" X.env (eval a X.env) = eval a X.env) (hline : (apos.endLine == pos.line) = true) (ha : EvE X cv wx a fa) (hb : EvE X cv wx b fb) :
    EvE X cv wx (.Call (.Attribute a "split" apos) [b] [] pos) fun ρ => bnd (fa ρ) fun x => bnd (isStrM x) fun _ => bnd (fb ρ) fun y => ofO (bop .split x y) := by
  refine PE.imp (pe_split ha hb hs hbase hline) fun σ H Q ⟨ρ, s, W0, W, e, at_, h⟩ => ?_
  refine ⟨ρ, s, W0, W, e, at_, h.bnd.mono fun x W1 s1 n1 st1 h1 u ru => ?_⟩
  cases x with
  | str t =>
    have h1 : Aft X.K cv W1 σ wx (bnd (fb ρ) (fun y => ofO (bop .split (.str t) y)) s1) fun d W' _ => ∀ v, Rp X.K W' d v → Q v W'.H := h1
    cases ru with | str _ hc hz =>
    refine ⟨⟨_, rfl⟩, ρ, s1, W0, W1, rfl, at_.next n1 st1, h1.bnd.mono fun y W2 s2 n2 st2 h2 v rv => ?_⟩
    obtain ⟨d, e1, h3⟩ := h2.ofO
    cases y with
    | str q =>
      have e2 : (if q ≠ [] ∧ q.all (· < 256) = true ∧ t.length + 2 ≤ lim ∧ (TL.spl q 0 [] t).all (fun p => p.all (· < 0x110000) && decide (p.length ≤ lim)) = true ∧ (TL.spl q 0 [] t).length ≤ lim then some (D.lst ((TL.spl q 0 [] t).map .str)) else none) = some d := e1
      by_cases hcond : q ≠ [] ∧ q.all (· < 256) = true ∧ t.length + 2 ≤ lim ∧ (TL.spl q 0 [] t).all (fun p => p.all (· < 0x110000) && decide (p.length ≤ lim)) = true ∧ (TL.spl q 0 [] t).length ≤ lim
      · rw [if_pos hcond] at e2
        cases e2
        cases rv
        refine ⟨_, _, rfl, rfl, ?_, ?_, fun p hp => ?_⟩
        · rw [S_len]
          cases q with
          | nil => exact absurd rfl hcond.1
          | cons _ _ => rfl
        · rw [S_len, ← lim_eq]; exact hcond.2.2.1
        · rw [SX.split_S hcond.1 hcond.2.1]
          have r : ∀ (l : List (List Nat)), l.all (fun p => p.all (· < 0x110000) && decide (p.length ≤ lim)) = true → RpL X.K W2 (l.map D.str) ((l.map S).map V.str) := by
            intro l
            induction l with
            | nil => intro _; exact .nil
            | cons x l ih =>
              intro h
              rw [List.all_cons] at h
              have h1 : (x.all (· < 0x110000) && decide (x.length ≤ lim)) = true ∧ l.all (fun p => p.all (· < 0x110000) && decide (p.length ≤ lim)) = true := by simpa using h
              have h2 : x.all (· < 0x110000) = true ∧ decide (x.length ≤ lim) = true := by simpa using h1.1
              exact .cons rfl (.str x h2.1 (of_decide_eq_true h2.2)) (ih h1.2)
          exact h3 _ (Nxt.new st2 hp) (st2.new hp) _ (Rp.newL st2 hp (by rw [List.length_map]; exact hcond.2.2.2.2) (r _ hcond.2.2.2.1))
      · rw [if_neg hcond] at e2; cases e2
    | _ => cases e1
  | _ => exact (h1 : False).elim
theorem enu_get {l : List D} {i : Nat} {d : D} (h : (enuL l)[i]? = some d) : ∃ x, l[i]? = some x ∧ d = .pr (.int i) x := by
  unfold enuL at h
  rw [List.getElem?_map] at h
  cases e : ((List.range l.length).zip l)[i]? with
  | none => rw [e] at h; cases h
  | some p =>
    rw [e] at h
    cases h
    obtain ⟨h1, h2⟩ := List.getElem?_zip_eq_some.mp e
    have h1 : p.1 = i := by
      have hlt : i < l.length := (List.getElem?_eq_some_iff.mp h2).1
      rw [List.getElem?_range hlt] at h1
      cases h1; rfl
    exact ⟨p.2, h2, by subst h1; rfl⟩
theorem enu_len (l : List D) : (enuL l).length = l.length := by unfold enuL; rw [List.length_map, List.length_zip, List.length_range]; omega
theorem yl_enu {K : PySem.W.Frag} {W : Wd} {a : Addr} {xs : List V} {ds : List D} (h1 : Rd W.H a (.lst xs)) (n1 : ¬ W.F a) (r1 : RpL K W ds xs) : Yl K W (Ite K a) (enuL ds) := by
  intro W' s' n st
  have g1 : SqL K W'.H a xs := .inl (n.rd h1 n1).1
  have r1' := n.rpL r1
  refine ⟨fun i d e => ?_, ⟨xs, g1, ?_⟩⟩
  · obtain ⟨x, e1, rfl⟩ := enu_get e
    obtain ⟨u, eu, ou, ru⟩ := r1'.get e1
    refine ⟨⟨xs, u, g1, eu⟩, fun w H'' ⟨T, x', e3, e4, e5, e6⟩ => ?_⟩
    have ex := e6 xs g1
    rw [eu] at ex; cases ex
    subst e3
    obtain ⟨W'', q1, q2, q3, q4, q5, q6⟩ := pair_new (W' := W') (d := .int (i : Nat)) st rfl (.int _) ou ru e4
    exact ⟨W'', q1.trans e5.symm, q2, q3, q4, q5, q6⟩
  · rw [enu_len, r1.length]; exact Nat.le_refl _
theorem yl_enuT {K : PySem.W.Frag} {W : Wd} {a : Addr} {xs : List V} {ds : List D} (h1 : SqT K W.H a xs) (r1 : RpL K W ds xs) : Yl K W (ItE K a) (enuL ds) := by
  intro W' s' n st
  have g1 : SqT K W'.H a xs := n.sqT h1
  have r1' := n.rpL r1
  refine ⟨fun i d e => ?_, ⟨xs, g1, ?_⟩⟩
  · obtain ⟨x, e1, rfl⟩ := enu_get e
    obtain ⟨u, eu, ou, ru⟩ := r1'.get e1
    refine ⟨⟨xs, u, g1, eu⟩, fun w H'' ⟨T, x', e3, e4, e5, e6⟩ => ?_⟩
    have ex := e6 xs g1
    rw [eu] at ex; cases ex
    subst e3
    obtain ⟨W'', q1, q2, q3, q4, q5, q6⟩ := pair_new (W' := W') (d := .int (i : Nat)) st rfl (.int _) ou ru e4
    exact ⟨W'', q1.trans e5.symm, q2, q3, q4, q5, q6⟩
  · rw [enu_len, r1.length]; exact Nat.le_refl _
theorem oks_enu {l : List D} : Oks (enuL l) := fun d hd => by
  unfold enuL at hd
  obtain ⟨_, _, rfl⟩ := List.mem_map.mp hd
  rfl
theorem i_enu {elts : List Expr} {kk : Nat} {tpos : Pos} (hg : Gl X "enumerate") (hm : X.mg "enumerate" = none) (hs : starEach [a] X.env = [(false, eval a X.env)]) (ha : EvE X cv wx a fa) :
    EvI X cv wx (.Tuple elts kk tpos) (.Call (.Name "enumerate" p) [a] [] pos) fun ρ => bnd (fa ρ) enuOf := by
  refine PI.imp (pi_enuA hg hm (pa_cons ha pa_nil (by rw [hs]; rfl)) hs) fun σ H Q ⟨ρ, s, W0, W, e, at_, h⟩ => ?_
  refine ⟨ρ, s, W0, W, e, at_, h.bnd.mono fun x W1 s1 n1 st1 h1 u ru => ?_⟩
  cases x with
  | lst l =>
    cases ru with | lst g nf z r =>
    rename_i ad xs
    exact ⟨ad, xs, rfl, .inl ⟨.inl g, h1 W1 Nxt.refl st1 _ (yl_enu g nf r) oks_enu (by rw [enu_len]; exact z)⟩⟩
  | tup l =>
    cases ru with | tup g z r =>
    rename_i ad xs
    exact ⟨ad, xs, rfl, .inr ⟨g.t, h1 W1 Nxt.refl st1 _ (yl_enuT g.t r) oks_enu (by rw [enu_len]; exact z)⟩⟩
  | _ => exact (h1 : False).elim
end
end Ev

namespace Ev
open PySem PySem.Spec PyProof.Rows L2
open SX (S S_cat S_len S_inj S_tl)
section
variable {X : Cx} {cv : Nat → Value} {wx : WX} {a b : Expr} {fa fb : Env → M D} {pos apos : Pos}
theorem pyL_get : ∀ {l : List D} {i : Nat}, (D.pyL l)[i]? = (l[i]?).map D.py
  | [], i => by simp [D.pyL]
  | d :: ds, 0 => by simp [D.pyL]
  | d :: ds, i + 1 => by
    simp only [D.pyL, List.getElem?_cons_succ]
    exact pyL_get
theorem fitL_mem {n : Nat} : ∀ {l : List D} {d : D}, D.fitL n l = true → d ∈ l → d.fit n = true
  | [], _, _, h => by cases h
  | x :: l, d, h, hd => by
    unfold D.fitL at h
    rw [Bool.and_eq_true] at h
    rcases List.mem_cons.mp hd with e | e
    · rw [e]; exact h.1
    · exact fitL_mem h.2 e
theorem find_get {α : Type} {l : List α} {p : α → Bool} {i : Nat} (h : l.findIdx? p = some i) : ∃ x, l[i]? = some x ∧ p x = true ∧ ∀ (m : Nat) y, m < i → l[m]? = some y → p y = false := by
  obtain ⟨hl, h1, h2⟩ := List.findIdx?_eq_some_iff_getElem.mp h
  refine ⟨l[i], List.getElem?_eq_getElem hl, h1, fun m y hm hy => ?_⟩
  have q := h2 m hm
  obtain ⟨hml, e⟩ := List.getElem?_eq_some_iff.mp hy
  rw [← e]
  simpa using q
theorem sq_inv {K : PySem.W.Frag} {σ : L2.St} {W : Wd} {s : Store} {α : Type} {t : Bool} {x : D} {k : M α} {Q : α → Wd → Store → Prop} (h : Aft K cv W σ wx (bnd (isSqM t x) (fun _ => k) s) Q) : isSqM t x = pur () ∧ Aft K cv W σ wx (k s) Q := by
  cases t <;> cases x <;> first | exact ⟨rfl, h⟩ | exact False.elim h
theorem e_idxL (hu : X.A.units + 65 < cLine) (hs : starEach [b] X.env = [(false, eval b X.env)]) (hbase : attributeBase a "index" X.env (eval a X.env) = eval a X.env) (hline : (apos.endLine == pos.line) = true) (ha : EvE X cv wx a fa) (hb : EvE X cv wx b fb) :
    EvE X cv wx (.Call (.Attribute a "index" apos) [b] [] pos) fun ρ => bnd (fa ρ) fun x => bnd (isSqM false x) fun _ => bnd (fb ρ) fun y => ofO (idxO false x y) := by
  refine PE.imp (pe_bm PySem.F.plainAttrs_list PySem.F.slot_list_index PySem.F.type_list_index (mt_indexD hu) ha (pa_cons hb pa_nil (by rw [hs]; rfl)) hbase (by rw [hs]; rfl) hline (by rw [hs]; rfl) (by rfl)) fun σ H Q ⟨ρ, s, W0, W, e, at_, h⟩ => ?_
  refine ⟨ρ, s, W0, W, e, at_, h.bnd.mono fun x W1 s1 n1 st1 h1 u ru => ?_⟩
  obtain ⟨hx, h1⟩ := sq_inv h1
  obtain ⟨l, el⟩ : ∃ l, x.lst? = some l := by cases x <;> first | exact ⟨_, rfl⟩ | (have := congrFun hx []; cases this)
  refine ⟨?_, ρ, s1, W0, W1, rfl, at_.next n1 st1, h1.bnd.mono fun y W2 s2 n2 st2 h2 v rv => ?_⟩
  · obtain ⟨p, xs, rfl, g, _⟩ := lst_of el ru
    exact .inl ⟨rfl, xs, .inl g⟩
  obtain ⟨d, e1, h3⟩ := h2.ofO
  have e2 : (x.lst?.bind fun l => if y.fit deep && D.fitL deep l then (l.findIdx? fun z => z.eq y).map fun (i : Nat) => D.int (i : Int) else none) = some d := e1
  rw [el] at e2
  have e2 : (if (y.fit deep && D.fitL deep l) = true then (l.findIdx? fun z => z.eq y).map fun (i : Nat) => D.int (i : Int) else none) = some d := e2
  by_cases hf : (y.fit deep && D.fitL deep l) = true
  · rw [if_pos hf] at e2
    cases hi : l.findIdx? fun z => z.eq y with
    | none => rw [hi] at e2; cases e2
    | some i =>
      rw [hi] at e2
      cases e2
      rw [Bool.and_eq_true] at hf
      obtain ⟨z, g1, g2, g3⟩ := find_get hi
      obtain ⟨p, xs, rfl, gl, _, r⟩ := lst_of el (n2.rp st1.inF ru)
      obtain ⟨q1, q2⟩ := r.dp _ hf.2
      have h64 : PyData.depthAll (D.pyL l) + 1 ≤ 64 := Nat.le_trans (Nat.add_le_add_right (depth_pyL _ _ hf.2) 1) (by decide)
      have fz : ∀ {m : Nat} {w : D}, l[m]? = some w → w.fit deep = true := fun {m w} hm => fitL_mem hf.2 (List.mem_of_getElem? hm)
      refine ⟨p, v, y.py, D.pyL l, i, z.py, rfl, rfl, .lst (.inl gl) q1, (rv.dp _ hf.1).1, ?_, shaped_of rv hf.1, ?_, ?_, fun m z' hm hz' => ?_, h3 _ Nxt.refl st2 _ (.int _)⟩
      · simp [SeqAt.shaped, PyData.canLay0, PyData.depth, q2, h64]
      · rw [pyL_get, g1]; rfl
      · rw [eqv_py z y deep deep (fz g1) hf.1]; exact g2
      · rw [pyL_get] at hz'
        cases hw : l[m]? with
        | none => rw [hw] at hz'; cases hz'
        | some w =>
          rw [hw] at hz'
          cases hz'
          rw [eqv_py w y deep deep (fz hw) hf.1]
          exact g3 m w hm hw
  · rw [if_neg hf] at e2; cases e2
theorem e_idxT (hs : starEach [b] X.env = [(false, eval b X.env)]) (hbase : attributeBase a "index" X.env (eval a X.env) = eval a X.env) (hline : (apos.endLine == pos.line) = true) (ha : EvE X cv wx a fa) (hb : EvE X cv wx b fb) :
    EvE X cv wx (.Call (.Attribute a "index" apos) [b] [] pos) fun ρ => bnd (fa ρ) fun x => bnd (isSqM true x) fun _ => bnd (fb ρ) fun y => ofO (idxO true x y) := by
  refine PE.imp (pe_ixT ha hb hbase hs hline) fun σ H Q ⟨ρ, s, W0, W, e, at_, h⟩ => ?_
  refine ⟨ρ, s, W0, W, e, at_, h.bnd.mono fun x W1 s1 n1 st1 h1 u ru => ?_⟩
  obtain ⟨hx, h1⟩ := sq_inv h1
  cases x with
  | tup l =>
    cases ru with | @tup p xs _ g z r =>
    refine ⟨p, xs, rfl, g, ρ, s1, W0, W1, rfl, at_.next n1 st1, h1.bnd.mono fun y W2 s2 n2 st2 h2 v rv => ?_⟩
    obtain ⟨d, e1, h3⟩ := h2.ofO
    cases y with
    | str t =>
      have e2 : ((strsOf l).bind fun ss => (ss.findIdx? fun z => z == t).map fun (i : Nat) => D.int (i : Int)) = some d := e1
      cases hl : strsOf l with
      | none => rw [hl] at e2; cases e2
      | some ss =>
        rw [hl] at e2
        have e2 : ((ss.findIdx? fun z => z == t).map fun (i : Nat) => D.int (i : Int)) = some d := e2
        cases hi : ss.findIdx? fun z => z == t with
        | none => rw [hi] at e2; cases e2
        | some i =>
          rw [hi] at e2
          cases e2
          cases rv
          have ex : xs = (ss.map S).map V.str := strs_rp hl r
          obtain ⟨w, g1, g2, g3⟩ := find_get hi
          have ew : w = t := by simpa using g2
          subst ew
          refine ⟨ss.map S, S w, i, rfl, by rw [← ex]; exact n2.sqX g, by rw [List.getElem?_map, g1]; rfl, fun m hm hz => ?_, h3 _ Nxt.refl st2 _ (.int _)⟩
          rw [List.getElem?_map] at hz
          cases hw : ss[m]? with
          | none => rw [hw] at hz; cases hz
          | some y =>
            rw [hw] at hz
            have := g3 m y hm hw
            have e3 : S y = S w := Option.some.inj hz
            rw [SX.S_inj e3] at this
            simp at this
    | _ => cases e1
  | _ => (have := congrFun hx []); cases this
end
end Ev

namespace Ev
open PySem PySem.Spec PyProof.Rows L2
open SX (S S_cat S_len S_inj S_tl)
section
variable {X : Cx} {cv : Nat → Value} {wx : WX} {g : Env → M Fl} {fa : Env → M D} {pos : Pos}
theorem s_rse {e : Expr} {c : Nat} {C : Addr} (hc : X.calm = true) (tk : Takes X wx) (he : PMk X e (fun _ H Q => Q (.ref C) none H)) (hcv : cv c = .ref C) : EvS X cv wx (.Raise (some e) none pos) fun _ => raise ⟨c, none⟩ := by
  refine PS.imp (ps_raise hc tk he) fun σ H E ⟨ρ, s, W0, W, eH, at_, h⟩ => ?_
  subst eH
  exact h W at_.fr.nx at_.st (.ref C) none ⟨hcv.symm, rfl⟩
/-- one clause: what the rule wants of it and what it is here -/
structure HdOk (X : Cx) (cv : Nat → Value) (h : Hd) (c : Value) (ts : Addr → Value → Option Addr → TS) : Prop where
  yes : ∀ e ∈ h.cs, PySem.W.exmOne X.K (cv e) c = some true
  no : ∀ e ∈ h.ns, PySem.W.exmOne X.K (cv e) c = some false
  gives : ∃ d v, h.r = .inl d ∧ d.ok = true ∧ (∀ W, Rp X.K W d v) ∧ ts = fun _ _ _ D _ H => D.rt v H
inductive HdsR (X : Cx) (cv : Nat → Value) : List Hd → List (Value × (Addr → Value → Option Addr → TS)) → Prop
  | nil : HdsR X cv [] []
  | cons {h c ts hs l} : HdOk X cv h c ts → HdsR X cv hs l → HdsR X cv (h :: hs) ((c, ts) :: l)
theorem many_of {hs : List Hd} {l : List (Value × (Addr → Value → Option Addr → TS))} {W0 W' : Wd} {s' : Store} {σ : L2.St} {E : Ends} {e : Exc} {cls : Value} {d : Option Addr} (r : HdsR X cv hs l) (n : Nxt W0 W') (st : StOk X.K W' s') (hcls : cls = cv e.c)
    (h : AftS X.K cv W0 W' σ wx (bnd (hdR hs e) (fun d => pur (.ret d)) s') E) (hE : ErrOk X.K cv W' e cls d) : wMany X.K wx E l cls d σ W'.H := by
  induction r with
  | nil => exact h W' n st cls d hE
  | @cons h0 c ts hs l ok r ih =>
    subst hcls
    by_cases h1 : e.c ∈ h0.cs
    · obtain ⟨x, v, g1, g2, g3, g4⟩ := ok.gives
      refine ⟨true, ok.yes _ h1, fun _ a _ => ?_, fun z => (by cases z)⟩
      rw [g4]
      have h2 : AftS X.K cv W0 W' σ wx (pur (.ret x) s') E := by
        unfold hdR at h
        rw [if_pos h1, g1] at h
        exact h
      exact h2 W' n st v g2 (g3 W')
    · by_cases h2 : e.c ∈ h0.ns
      · refine ⟨false, ok.no _ h2, fun z => (by cases z), fun _ => ih ?_⟩
        unfold hdR at h
        rw [if_neg h1, if_pos h2] at h
        exact h
      · exfalso
        unfold hdR at h
        rw [if_neg h1, if_neg h2] at h
        exact h
theorem s_try {st : Stmt} {h₀ : ExceptHandler} {hds : List ExceptHandler} {hs : List Hd} {l : List (Value × (Addr → Value → Option Addr → TS))} (hst : X.stack = X.env :: X.outer) (hf : X.env.frame = some X.env.locals) (tk : Takes X wx)
    (hb : ∀ (W : WX) (pn : List (Addr × Obj)) (xe : Value → Shared → Prop), Takes (X.tr pn xe) W → PS (X.tr pn xe) st (sE X.K cv W g)) (hh : HdsOk X (h₀ :: hds) l) (r : HdsR X cv hs l) : EvS X cv wx (.Try [st] (h₀ :: hds) [] [] pos) fun ρ => tryF hs (g ρ) := by
  refine PS.imp (ps_try_many (tb := fun W => sE X.K cv W g) hst hf tk (fun W pn xe t _ => pss_one (hb W pn xe t)) hh) fun σ H E ⟨ρ, s, W0, W, eH, at_, h⟩ => ?_
  refine ⟨ρ, s, W0, W, eH, at_, ?_⟩
  have h : AftS X.K cv W0 W σ wx (tryF hs (g ρ) s) E := h
  unfold tryF at h
  cases q : g ρ s with
  | none => rw [q] at h; exact h
  | some z =>
    obtain ⟨z, s'⟩ := z
    rw [q] at h
    cases z with
    | ok x => cases x <;> exact h
    | err e =>
      intro W' n st cls d hE
      refine many_of r n st hE.1 ?_ hE
      have h' : AftS X.K cv W0 W σ wx (bnd (hdR hs e) (fun d => pur (.ret d)) s') E := h
      -- nothing of it hangs on the world at the start
      cases q2 : bnd (hdR hs e) (fun d => (pur (.ret d) : M Fl)) s' with
      | none => rw [q2] at h'; exact h'
      | some z2 =>
        obtain ⟨z2, s2⟩ := z2
        rw [q2] at h'
        cases z2 with
        | err e2 => exact h'
        | ok x2 =>
          cases x2 with
          | ret d2 => exact h'
          | nx ρ2 =>
            exfalso
            obtain ⟨d2, s3, _, q3⟩ := bnd_inv q2
            cases q3
end
end Ev

namespace Ev
open PySem PySem.Spec PyProof.Rows L2 LamX
open SX (S S_cat S_len S_inj S_tl)
/-- the table at P holds code objects of the name q alone -/
def TabV (H : Hp) (P : Addr) (q : Str) : Prop := ∃ ps : Array Value, H P = some (.tbl ps) ∧ TriplesOk ps.toList ∧ ∀ (pos : Pos) (cv : Value), codeAmong pos ps.toList = some cv → ∃ c, cv = .ref c ∧ H c = some (CodeO c q)
/-- what the making of a lambda leaves: all but the table, which may have grown -/
structure Grown (H H1 : Hp) (P : Addr) (q : Str) : Prop where
  kp : ∀ b o, b ≠ P → H b = some o → H1 b = some o
  tb : TabV H1 P q
  new : ∀ b, H1 b ≠ none → H b = none → ∃ φ, H1 b = some (.ext φ)
section
variable {X : Cx} {pins : List (Addr × Obj)} {σ : L2.St} {H : Hp} {s : Shared}
theorem lam_new {c P : Addr} {params : Arguments} {body : Expr} {scope : Scope} {pos : Pos} {E : Value → Shared → Prop} {Q : Value → Shared → Prop} (I : Inv X pins σ H s) (B : LamX.TabB X.base X.mg c P) (hcode : X.env.code = .ref c)
    (hT : TabV H P (X.env.qual ++ "<lambda>")) (hdef : defaultsOf params X.env = ([], [])) (hfree : ∀ y ∈ scope.names, y.2 = .free → ∃ c, X.env.cells.lookup y.1 = some c)
    (k : ∀ (f c1 : Addr) (pm ctv : Value) (H1 : Hp) (s1 : Shared), Inv X pins σ H1 s1 → Grown H H1 P (X.env.qual ++ "<lambda>") → s1.heap.get? f = some (PySem.W.kla_obj "<lambda>" (X.env.qual ++ "<lambda>") params body scope (cloFrom X.env.cells scope.names []) pm c1 ctv) →
      H1 f = none → f ∉ frs X.stack → H1 c1 = some (CodeO c1 (X.env.qual ++ "<lambda>")) → Q (.ref f) s1) : wpAny (model X.prog X.w) X.A (eval (.Lambda params body scope pos) X.env) Q E s := by
  obtain ⟨ps, hP, tri, among⟩ := hT
  have hTB := B.bm.keeps I.bk
  have objP : s.heap.get? P = some { cls := .none, data := .fields ps } := I.hok P _ hP
  have far : ∀ b, s.heap.objs.size ≤ b → b ∉ frs X.stack := fun b hb z => (List.mem_cons.mp (I.stkSub _ z)).elim (fun e => absurd (Nat.lt_of_lt_of_le I.lt (show s.heap.objs.size ≤ _ from e ▸ hb)) (Nat.lt_irrefl _)) fun e => I.nofs hb e
  refine PySem.W.kla_eval hdef ?_
  cases hc : codeAmong pos ps.toList with
  | some cv =>
    obtain ⟨c1, e1, co⟩ := among pos cv hc
    subst e1
    refine PySem.W.kla_makeFunctionHit (mg := X.mg) (c := c) (P := P) (ps := ps) (closure_ok hfree) I.ok.glob (I.mod.glob.keeps I.bk) hcode (B.code.keeps I.bk) objP tri hc hTB fun ctv h1 tk hx hz => ?_
    exact k h1.objs.size c1 _ ctv H _ (I.kept (t' := tk) fun b o e => Heap.get?_push_of_some _ (hx b o e)) ⟨fun _ _ _ e => e, ⟨ps, hP, tri, among⟩, fun b h1 h2 => absurd h2 h1⟩ (Heap.get?_push_size _ rfl) (I.hok.fresh hz) (far _ hz) co
  | none =>
    refine PySem.W.kla_makeFunction (mg := X.mg) (c := c) (P := P) (ps := ps) (closure_ok hfree) I.ok.glob (I.mod.glob.keeps I.bk) hcode (B.code.keeps I.bk) objP tri hc B.gP hTB fun c1 ctv h1 tk hx hge hlt hrec htab => ?_
    obtain ⟨c2, oc, vs, t, e2, g1, g2, g3⟩ := hrec
    cases e2
    have big : s.heap.objs.size ≤ h1.objs.size := Nat.le_trans hge (Nat.le_of_lt hlt)
    have nC : H c1 = none := I.hok.fresh hge
    have nPc : P ≠ c1 := ne_of_none hP nC
    have J := inv_table (t' := tk) (more := #[rawInt pos.line, rawInt pos.col, .ref c1]) (q := X.env.qual ++ "<lambda>") (h' := h1.push (PySem.W.kla_obj "<lambda>" (X.env.qual ++ "<lambda>") params body scope (cloFrom X.env.cells scope.names []) ((X.mg "__name__").getD .none) c1 ctv)) I hP
      (fun b o hb e => Heap.get?_push_of_some _ (hx b o hb e)) (Heap.get?_push_of_some _ htab) hge ⟨oc, vs, t, Heap.get?_push_of_some _ g1, g2, g3⟩
    have kp : ∀ b o, b ≠ P → H b = some o → upd (upd H P (.tbl (ps ++ #[rawInt pos.line, rawInt pos.col, .ref c1]))) c1 (CodeO c1 (X.env.qual ++ "<lambda>")) b = some o := fun b o nb e => by
      rw [upd_ne (ne_of_none e nC), upd_ne nb]
      exact e
    refine k h1.objs.size c1 _ ctv _ _ J ⟨kp, ⟨_, by rw [upd_ne nPc, upd_same], ?_, fun p2 cv2 hc2 => ?_⟩, fun b n1 n2 => ?_⟩ (Heap.get?_push_size _ rfl) ?_ (far _ big) upd_same
    · rw [show (ps ++ #[rawInt pos.line, rawInt pos.col, .ref c1]).toList = ps.toList ++ [rawInt pos.line, rawInt pos.col, .ref c1] from by simp]
      exact PySem.TriplesOk_snoc _ _ _ _ tri
    · rw [show (ps ++ #[rawInt pos.line, rawInt pos.col, .ref c1]).toList = ps.toList ++ [rawInt pos.line, rawInt pos.col, .ref c1] from by simp] at hc2
      rcases among_app _ tri hc2 with z | z
      · obtain ⟨c0, e1, e2⟩ := among p2 cv2 z
        refine ⟨c0, e1, kp c0 _ (fun e => ?_) e2⟩
        rw [e, hP] at e2
        unfold CodeO at e2
        cases e2
      · exact ⟨c1, z, upd_same⟩
    · by_cases e : b = c1
      · exact ⟨_, by rw [e, upd_same]; rfl⟩
      · exfalso
        rw [upd_ne e, upd_ne (fun z => by rw [z, hP] at n2; cases n2)] at n1
        exact n1 n2
    · have d1 : h1.objs.size ≠ c1 := Nat.ne_of_gt hlt
      have d2 : h1.objs.size ≠ P := Nat.ne_of_gt (Nat.lt_of_lt_of_le (Heap.lt_size objP) big)
      rw [upd_ne d1, upd_ne d2]
      exact I.hok.fresh big
/-- a lambda's reading, handed to what TT makes of it -/
def tLamG (P : Addr) (q : Str) (TT : (XK → Hp → VK → Prop) → Hp → VK → Prop) (t : XK → TE) : TE := fun σ H Q => TabV H P q ∧ ∀ H1, Grown H H1 P q → TT (fun E H2 Q2 => t E σ H2 Q2) H1 Q
theorem pe_lamG {TT : (XK → Hp → VK → Prop) → Hp → VK → Prop} {x a : Str} {g c P : Addr} {k : Nat} {pg : Arguments} {bg : List Stmt} {sg : Scope} {dV kV doc pm cdv ct oc : Value} {an od : Option Addr} {osl : Array (Option Value)} {Ng : List Str}
    {params : Arguments} {body : Expr} {scope : Scope} {t : XK → TE} {p lpos pos : Pos} (hg : Gl X x) (hm : X.mg x = some (.ref g)) (hk : PySem.W.keepIn X.K (.ref g) = true) (hdb : (x == ("__debug__" : Str)) = false)
    (lk : X.K.lookup g = some ⟨oc, od, .func (PySem.W.fnOf x x pg bg sg dV kV doc pm an cdv ct), osl⟩) (hcg : PySem.W.codeIn X.K cdv x = true) (hb : L2.Binds X.K (PySem.W.fnOf x x pg bg sg dV kV doc pm an cdv ct) [a] []) (Sg : FnScope Ng [a] sg) (hNg : Ng[0]? = some a) (hva : Vis sg a)
    (hd : (a == ("__debug__" : Str)) = false) (hcd : (a == ("__classdict__" : Str)) = false) (hG : GivesTo X Ng x sg g cdv bg a (X.env.qual ++ "<lambda>") TT)
    (B : LamX.TabB X.base X.mg c P) (hcode : X.env.code = .ref c) (hr : Room (k + 2) X.A) (L : LamS X.env.scope scope) (hdef : defaultsOf params X.env = ([], []))
    (hbind : ∀ (q : Str) (cl : List (Str × Addr)) (pm cv ctv : Value), bindArgs (PySem.W.kla_fn "<lambda>" q params body scope cl pm cv ctv) ⟨[], []⟩ = pure [])
    (hbody : ∀ (A : Around) (outer : List PySem.Env) (s : Shared) (H : Hp) (E : XK) (f c' : Addr), Room k (A.deeper (lamEnv X scope s.heap.objs.size f c')) → PE (lamCx X A outer s H E scope f c') body (t E)) :
    PE X (.Call (.Name x p) [.Lambda params body scope lpos] [] pos) (tLamG P (X.env.qual ++ "<lambda>") TT t) := by
  refine ⟨fun pins s σ H Q I ⟨hT, h⟩ => ?_⟩
  refine wpAny_Call_Name_kw (ld_glob I hg hm (PySem.W.callWith_K (h₀ := X.base) I.ok.mod.kin hk ?_ (by rfl) (by rfl)) hdb)
  show wpAny _ _ (spliced ((false, eval (.Lambda params body scope lpos) X.env) :: backTo pos (starEach [] X.env))) _ _ s
  refine Calls.spliced_cons (lam_new I B hcode hT hdef (L.has I.ok) fun f c1 pm2 ctv H1 s1 J gr hf hfn hfr hco => Calls.spliced_nil ⟨J.kIn, ?_⟩)
  have run : codeAny (model X.prog X.w) X.A (.call (.ref g) ⟨[.ref f], []⟩) (CR C8.CX0 X.stack X.prog X.w H1 s1 Q C8.E0) s1 := by
    refine run_ofS (N := Ng) (ps := [a]) (us := [.ref f]) (vs := [.ref f]) lk hcg Sg hr J.env0 (hb s1 [.ref f] J.kIn rfl) (.cons rfl .nil) rfl fun hr2 => ?_
    obtain ⟨t2, ht2, hq2⟩ := hG f c1 s1 H1 Q (fun E H2 Q2 => t E σ H2 Q2) (fun W pn xe E p1 p2 tk hW => pe_act (i := 0) J L hf hfn hfr (hbind _ _ _ _ _) tk hW hr2 (fun A outer s H hr3 => hbody A outer s H E f c1 hr3) hNg hva hd hcd) hco (h H1 gr)
    exact ⟨t2, ht2.nox, hq2⟩
  refine wpAny_call (codeAny_mono run fun r s2 hq => ?_)
  cases r with
  | error e => exact (show False from hq).elim
  | ok fl => cases fl <;> first | exact J.after hq | exact False.elim hq
end
end Ev

namespace Ev
open PySem PySem.Spec PyProof.Rows L2
open SX (S S_cat S_len S_inj S_tl)
/-- an exception class: its name, whether it has its own __init__ (then the field that it sets), the places of the classes above it, its own too -/
structure ExD where
  nm : Str
  own : Option Str := none
  sup : List Nat
structure Tb where
  fns : List Fd
  cons : List (Str × D)
  blt : List Str
  exc : List ExD := []
  thk : List Th := []
def Tb.mt (T : Tb) (i j : Nat) : Bool := match T.exc[i]? with
  | some e => decide (j ∈ e.sup)
  | none => false
/-- where one stands: the names by slots, the scope, whether it is a def's own frame -/
structure Cc where
  N : List Str
  sc : Scope
  top : Bool
  lam : Bool := false
def visB (sc : Scope) (x : Str) : Bool := match sc.names.lookup x with
  | some .local => true
  | some .cell => true
  | some .free => true
  | _ => false
def isVar (c : Cc) (i : Nat) (x : Str) : Bool := decide (c.N[i]? = some x) && (visB c.sc x && (!(x == ("__debug__" : Str)) && !(x == ("__classdict__" : Str))))
def isGl (sc : Scope) (x : Str) : Bool := decide (sc.names.lookup x = some .globalImplicit)
def isLoc (c : Cc) (i : Nat) (x : Str) : Bool := decide (c.N[i]? = some x) && (match c.sc.names.lookup x with
  | some .local => true
  | some .cell => c.top
  | _ => false)
def isBlt (T : Tb) (sc : Scope) (x y : Str) : Bool := decide (x = y) && (isGl sc x && (decide (x ∈ T.blt) && (!(x == ("__name__" : Str)) && !(x == ("__debug__" : Str)))))
def noStar : Expr → Bool
  | .Starred _ _ => false
  | _ => true
def noSlice : Expr → Bool
  | .Slice _ _ _ _ => false
  | _ => true
def noSet : Expr → Bool
  | .Set _ _ _ => false
  | _ => true
def noComp : Expr → Bool
  | .ListComp _ _ _ _ => false
  | .SetComp _ _ _ _ => false
  | .DictComp _ _ _ _ _ => false
  | _ => true
def unNm : Uo → Option String
  | .len => some "len"
  | .int => some "int"
  | .all => some "all"
  | .any => some "any"
  | .tuple => some "tuple"
  | .list => some "list"
  | _ => none
def isiNm : Uo → Option String
  | .isStr => some "str"
  | .isTup => some "tuple"
  | .isInt => some "int"
  | .isBl => some "bool"
  | .isLst => some "list"
  | _ => none
def binOp : Bo → Option Operator
  | .add => some .Add
  | .sub => some .Sub
  | .mul => some .Mult
  | .mod => some .Mod
  | .fdiv => some .FloorDiv
  | .pow => some .Pow
  | _ => none
def cmpOp : Bo → Option CmpOp
  | .eq => some .Eq
  | .ne => some .NotEq
  | .lt => some .Lt
  | .le => some .LtE
  | .gt => some .Gt
  | .ge => some .GtE
  | .inn => some .In
  | .nin => some .NotIn
  | .is => some .Is
  | .isn => some .IsNot
  | _ => none
def mmNm : Bo → Option String
  | .min => some "min"
  | .max => some "max"
  | _ => none
def litB : D → Const → Bool
  | .non, .none => true
  | .bl a, .bool b => a == b
  | .int i, .int j => decide (i = j)
  | .str s, .str t => decide (S s = t) && (s.all (· < 0x110000) && decide (s.length ≤ lim))
  | _, _ => false
def namesB (c : Cc) : List Nat → List Expr → Bool
  | [], [] => true
  | i :: is, .Name x _ :: es => isLoc c i x && namesB c is es
  | _, _ => false
def tgB (c : Cc) (is : List Nat) (e : Expr) : Bool := match is, e with
  | [i], .Name x _ => isLoc c i x
  | [_], _ => false
  | is, .Tuple es _ _ => namesB c is es
  | _, _ => false
def isTupE : Expr → Bool
  | .Tuple _ _ _ => true
  | _ => false
def tgNames : Expr → List Str
  | .Name x _ => [x]
  | .Tuple es _ _ => es.filterMap fun | .Name x _ => some x | _ => none
  | _ => []
def compTop (c : Cc) (scope : Scope) : Cc := ⟨c.N, relS scope c.sc, false, false⟩
def lamTop (c : Cc) (scope : Scope) : Cc := ⟨c.N, scope, false, false⟩
/-- a list that is new -/
def litK : Kd → Const → Bool
  | .inl i, .int j => decide (i = j)
  | .inr s, .str t => decide (S s = t)
  | _, _ => false
def noCallE : Expr → Bool
  | .Call _ _ _ _ => false
  | _ => true
def methNm : Bo → Option String
  | .join => some "join"
  | .split => some "split"
  | _ => none
def isNew : Ex → Bool
  | .lst _ => true
  | .comp _ _ _ _ => true
  | .bi .add _ _ => true
  | _ => false
/-- equality of written data, of what is made of them -/
def litEq : D → D → Bool
  | .non, .non => true
  | .bl a, .bl b => a == b
  | .int a, .int b => decide (a = b)
  | .str a, .str b => decide (a = b)
  | _, _ => false
theorem litEq_eq : ∀ {a b : D}, litEq a b = true → a = b := by
  intro a b h
  cases a <;> cases b <;> first | rfl | (cases h; done) | (congr 1; simpa [litEq] using h)
def hrEq : Sum D Str → Sum D Str → Bool
  | .inl a, .inl b => litEq a b
  | .inr a, .inr b => decide (a = b)
  | _, _ => false
theorem hrEq_eq : ∀ {a b : Sum D Str}, hrEq a b = true → a = b := by
  intro a b h
  cases a <;> cases b <;> first | (cases h; done) | (congr 1; exact litEq_eq h) | (congr 1; simpa [hrEq] using h)
def hdEq (a b : Hd) : Bool := (decide (a.j = b.j) && (decide (a.cs = b.cs) && decide (a.ns = b.ns))) && (decide (a.as = b.as) && hrEq a.r b.r)
theorem hdEq_eq {a b : Hd} (h : hdEq a b = true) : a = b := by
  obtain ⟨a1, a2, a3, a4, a5⟩ := a
  obtain ⟨b1, b2, b3, b4, b5⟩ := b
  simp only [hdEq, Bool.and_eq_true, decide_eq_true_eq] at h
  obtain ⟨⟨h1, h2, h3⟩, h4, h5⟩ := h
  rw [h1, h2, h3, h4, hrEq_eq h5]
def hdsEq : List Hd → List Hd → Bool
  | [], [] => true
  | a :: r, b :: s => hdEq a b && hdsEq r s
  | _, _ => false
theorem hdsEq_eq : ∀ {a b : List Hd}, hdsEq a b = true → a = b
  | [], [], _ => rfl
  | [], _ :: _, h => by cases h
  | _ :: _, [], h => by cases h
  | a :: r, b :: s, h => by
    have h : (hdEq a b && hdsEq r s) = true := h
    rw [Bool.and_eq_true] at h
    rw [hdEq_eq h.1, hdsEq_eq h.2]
def thEq (a b : Th) : Bool := (decide (a.nm = b.nm) && decide (a.ret = b.ret)) && (hdsEq a.hs b.hs && litEq a.last b.last)
theorem thEq_eq {a b : Th} (h : thEq a b = true) : a = b := by
  obtain ⟨a1, a2, a3, a4⟩ := a
  obtain ⟨b1, b2, b3, b4⟩ := b
  simp only [thEq, Bool.and_eq_true, decide_eq_true_eq] at h
  obtain ⟨⟨h1, h2⟩, h3, h4⟩ := h
  rw [h1, h2, hdsEq_eq h3, litEq_eq h4]
def noParams : Arguments → Bool
  | ⟨[], [], none, [], [], none, []⟩ => true
  | _ => false
section
variable (T : Tb)
/-- the clauses, as they stand in the text -/
def chkHd (sc : Scope) (h : Hd) (e : ExceptHandler) : Bool := match e with
  | .ExceptHandler (some (.Name x _)) none [.Return (some (.Constant q _ _)) _] _ => (match h.r with
    | .inl d => (isGl sc x && (decide ((T.exc[h.j]?).map (·.nm) = some x) && !(x == ("__debug__" : Str)))) && ((decide (h.as = none) && litB d q) &&
        ((h.cs.all fun i => decide (i < T.exc.length) && T.mt i h.j) && h.ns.all fun i => decide (i < T.exc.length) && !T.mt i h.j))
    | _ => false)
  | _ => false
def chkHds (sc : Scope) : List Hd → List ExceptHandler → Bool
  | [], [] => true
  | h :: hs, e :: es => chkHd T sc h e && chkHds sc hs es
  | _, _ => false
/-- a def that calls what it gets -/
def chkTh (h : Th) (a : Str) (sc : Scope) (bg : List Stmt) : Bool := match bg with
  | [.Try [.Expr (.Call (.Name b _) [] [] _) _] hds [] [] _, .Return (some (.Constant q _ _)) _] => (!h.ret && decide (b = a)) && ((!hds.isEmpty && chkHds T sc h.hs hds) && litB h.last q)
  | [.Try [.Return (some (.Call (.Name b _) [] [] _)) _] hds [] [] _] => (h.ret && decide (b = a)) && (!hds.isEmpty && chkHds T sc h.hs hds)
  | _ => false
mutual
def chk (x : Ex) (c : Cc) (e : Expr) : Bool := match x, e with
  | .var i, .Name n _ => isVar c i n
  | .lit d, .Constant k _ _ => litB d k
  | .con g, .Name n _ => isGl c.sc n && (decide ((T.cons[g]?).map (·.1) = some n) && !(n == ("__debug__" : Str)))
  | .tup l, .Tuple es _ _ => decide (es.length ≤ 1000) && chkL l c es
  | .lst l, .List es _ => decide (es.length ≤ 1000) && chkL l c es
  | .un o a, .UnaryOp .USub e1 _ => decide (o = .neg) && chk a c e1
  | .un o a, .Call (.Name n _) [e1] [] _ => (match unNm o with
    | some s => isBlt T c.sc n s && (noStar e1 && chk a c e1)
    | none => false)
  | .un o a, .Call (.Name n _) [e1, .Name t _] [] _ => (match isiNm o with
    | some s => isBlt T c.sc n "isinstance" && (isBlt T c.sc t s && (noStar e1 && chk a c e1))
    | none => false)
  | .un o a, .Subscript e1 (.Slice none none (some (.UnaryOp .USub (.Constant (.int 1) _ _) _)) _) _ => decide (o = .rev) && chk a c e1
  | .bi o a b, .BinOp e1 op e2 _ => decide (binOp o = some op) && (chk a c e1 && chk b c e2)
  | .bi o a b, .Compare e1 [op] [e2] _ => decide (cmpOp o = some op) && (noSet e2 && (chk a c e1 && chk b c e2))
  | .bi o a b, .Subscript e1 e2 _ => decide (o = .ix) && (noSlice e2 && (chk a c e1 && chk b c e2))
  | .bi o a b, .Call (.Name n _) [e1, e2] [] _ => (match mmNm o with
    | some s => isBlt T c.sc n s && ((noStar e1 && noStar e2) && (chk a c e1 && chk b c e2))
    | none => false)
  | .ch o p a b d, .Compare e1 [op, oq] [e2, e3] _ => decide (cmpOp o = some op) && (decide (cmpOp p = some oq) && (noSet e3 && (chk a c e1 && (chk b c e2 && chk d c e3))))
  | .not a, .UnaryOp .Not e1 _ => chk a c e1
  | .and a b, .BoolOp .And (e1 :: e2 :: es) pos => chk a c e1 && (match es with
    | [] => chk b c e2
    | e3 :: es => chk b c (.BoolOp .And (e2 :: e3 :: es) pos))
  | .or a b, .BoolOp .Or (e1 :: e2 :: es) pos => chk a c e1 && (match es with
    | [] => chk b c e2
    | e3 :: es => chk b c (.BoolOp .Or (e2 :: e3 :: es) pos))
  | .ite d a b, .IfExp e1 e2 e3 _ => chk d c e1 && (chk a c e2 && chk b c e3)
  | .cut a lo hi, .Subscript e1 (.Slice l h none _) _ => chk a c e1 && (chkO lo c l && chkO hi c h)
  | .call f l, .Call (.Name n _) es [] _ => (match T.fns[f]? with
    | some fd => decide (fd.nm = n) && (isGl c.sc n && (!(n == ("__debug__" : Str)) && (!es.isEmpty && (es.all noStar && (decide (es.length = fd.ps) && chkL l c es)))))
    | none => false)
  | .comp tg d elt it, .ListComp e1 [⟨tgE, itE, ifs, 0⟩] scope _ => decide (tg.Nodup) && (blkC c.N c.sc scope ((tgNames tgE).zip tg) && (decide ((tgNames tgE).length = tg.length) && (tgB (compTop c scope) tg tgE && (noSet itE && (chkC d (compTop c scope) ifs && (chk elt (compTop c scope) e1 && chkI it c tgE itE))))))
  | .cel a, e1 => isNew a && chk a c e1
  | .at0 a j, .Subscript e1 e2 _ => noSlice e2 && (chk a c e1 && chk j c e2)
  | .dct [] .nil, .Dict [] [] _ => true
  | .dct ks l, .Dict keys vals _ => (!keys.isEmpty && decide (keys.length ≤ 15)) && ((decide (keys.length = vals.length) && (decide (ks.length ≤ 15) && (ks.all kdOk && keys.all (·.isSome)))) && chkP l ks c keys vals)
  | .get2 a b d, .Call (.Attribute e1 m apos) [e2, e3] [] cpos => decide (m = "get") && (noCallE e1 && ((noStar e2 && noStar e3) && ((apos.endLine == cpos.line) && (chk a c e1 && (chk b c e2 && chk d c e3)))))
  | .idx _ a b, .Call (.Attribute e1 m apos) [e2] [] cpos => decide (m = "index") && (noCallE e1 && (noStar e2 && ((apos.endLine == cpos.line) && (chk a c e1 && chk b c e2))))
  | .lam h e, .Call (.Name x _) [.Lambda params body scope _] [] _ => ((c.lam && h.hs.any fun y => y.ns.isEmpty) && (T.thk.any fun h' => thEq h h')) && ((decide (x = h.nm) && (isGl c.sc x && !(x == ("__debug__" : Str)))) && ((noParams params && LamX.lamSB c.sc scope) && chk e (lamTop c scope) body))
  | .meth o a b, .Call (.Attribute e1 m apos) [e2] [] cpos => (match methNm o with
    | some s => decide (m = s) && (noCallE e1 && (noStar e2 && ((apos.endLine == cpos.line) && (chk a c e1 && chk b c e2))))
    | none => false)
  | _, _ => false
def chkL (x : Ex) (c : Cc) (es : List Expr) : Bool := match x, es with
  | .nil, [] => true
  | .cons a r, e :: es => noStar e && (chk a c e && chkL r c es)
  | _, _ => false
def chkP (x : Ex) (ks : List Kd) (c : Cc) (keys : List (Option Expr)) (vals : List Expr) : Bool := match x, ks, keys, vals with
  | .nil, [], [], [] => true
  | .cons a r, k :: ks, some (.Constant q _ _) :: keys, v :: vals => litK k q && (chk a c v && chkP r ks c keys vals)
  | _, _, _, _ => false
def chkO (x : Ex) (c : Cc) (e : Option Expr) : Bool := match x, e with
  | .nil, none => true
  | .val a, some e => chk a c e
  | _, _ => false
def chkC (x : Ex) (c : Cc) (es : List Expr) : Bool := match x, es with
  | .nil, [] => true
  | .val a, [e] => chk a c e
  | _, _ => false
def chkI (x : Ex) (c : Cc) (tg : Expr) (e : Expr) : Bool := match x, e with
  | .val a, e => chk a c e
  | .rng1 a, .Call (.Name n _) [e1] [] _ => isBlt T c.sc n "range" && (noStar e1 && chk a c e1)
  | .rng2 a b, .Call (.Name n _) [e1, e2] [] _ => isBlt T c.sc n "range" && ((noStar e1 && noStar e2) && (chk a c e1 && chk b c e2))
  | .enu a, .Call (.Name n _) [e1] [] _ => isTupE tg && (isBlt T c.sc n "enumerate" && (noStar e1 && chk a c e1))
  | .zip a b, .Call (.Name n _) [e1, e2] [] _ => isTupE tg && (isBlt T c.sc n "zip" && ((noStar e1 && noStar e2) && (chk a c e1 && chk b c e2)))
  | _, _ => false
end
end
end Ev

namespace Ev
open PySem PySem.Spec PyProof.Rows L2
open SX (S S_cat S_len S_inj S_tl)
theorem band' {a b : Bool} (h : (a && b) = true) : a = true ∧ b = true := by simpa using h
def litV : D → V
  | .bl b => .bl b
  | .int i => .int i
  | .str s => .str (S s)
  | _ => .non
theorem lit_ofV {X : Cx} {d : D} {q : Const} {j : Nat} {pos : Pos} (h : litB d q = true) : PE X (.Constant q j pos) (tC (litV d)) ∧ (∀ W, Rp X.K W d (litV d)) ∧ d.ok = true := by
  cases d with
  | non => cases q <;> first | exact ⟨pe_non, fun _ => .non, rfl⟩ | cases h
  | bl a =>
    cases q with
    | bool b =>
      have e : a = b := by simpa [litB] using h
      subst e
      exact ⟨pe_bl, fun _ => .bl a, rfl⟩
    | _ => cases h
  | int a =>
    cases q with
    | int b =>
      have e : a = b := by simpa [litB] using h
      subst e
      exact ⟨pe_int, fun _ => .int a, rfl⟩
    | _ => cases h
  | str a =>
    cases q with
    | str b =>
      obtain ⟨h1, h⟩ := band' h
      obtain ⟨h2, h3⟩ := band' h
      have e : S a = b := of_decide_eq_true h1
      subst e
      exact ⟨pe_str, fun _ => .str a h2 (of_decide_eq_true h3), rfl⟩
    | _ => cases h
  | _ => cases q <;> cases h
/-- what is known of the exception classes -/
structure ExF (T : Tb) (K : PySem.W.Frag) (mg : Str → Option Value) (cv : Nat → Value) : Prop where
  at_ : ∀ (j : Nat) e, T.exc[j]? = some e → ∃ C, cv j = .ref C ∧ mg e.nm = some (.ref C) ∧ PySem.W.keepIn K (.ref C) = true ∧ PySem.W.subIn K (.ref C) (.type "BaseException") = some true ∧ PySem.W.typeIn K (.ref C) = some (.type "type") ∧
    (e.own = none → PySem.W.excIn K C He.veBase "ValueError.__new__" = true)
  mt : ∀ i j : Nat, i < T.exc.length → j < T.exc.length → PySem.W.exmOne K (cv i) (cv j) = some (T.mt i j)
/-- the clauses' ends, as the rule wants them -/
def endsOf (cv : Nat → Value) (hs : List Hd) : List (Value × (Addr → Value → Option Addr → TS)) := hs.map fun h => (cv h.j, fun _ _ _ D _ H => D.rt (match h.r with | .inl d => litV d | .inr _ => .non) H)
theorem hd_ok {T : Tb} {X : Cx} {cv : Nat → Value} {sc : Scope} (F : ExF T X.K X.mg cv) (hsc : X.env.scope = sc) : ∀ {hs : List Hd} {es : List ExceptHandler}, chkHds T sc hs es = true → HdsOk X es (endsOf cv hs) ∧ HdsR X cv hs (endsOf cv hs)
  | [], [], _ => ⟨.nil, .nil⟩
  | [], _ :: _, h => by cases h
  | _ :: _, [], h => by cases h
  | h :: hs, e :: es, hh => by
    obtain ⟨h1, h2⟩ := band' (show (chkHd T sc h e && chkHds T sc hs es) = true from hh)
    obtain ⟨r1, r2⟩ := hd_ok F hsc h2
    unfold chkHd at h1
    split at h1 <;> first | (cases h1; done) | skip
    split at h1 <;> first | (cases h1; done) | skip
    rename_i x np q jj p p' pos' _ d hd
    obtain ⟨h1, h3⟩ := band' h1
    obtain ⟨g1, h1⟩ := band' h1
    obtain ⟨g2, g3⟩ := band' h1
    obtain ⟨h3, h4⟩ := band' h3
    obtain ⟨g4, g5⟩ := band' h3
    obtain ⟨g6, g7⟩ := band' h4
    have g2 := of_decide_eq_true g2
    cases he : T.exc[h.j]? with
    | none => rw [he] at g2; cases g2
    | some ed =>
      rw [he] at g2
      have g2 : ed.nm = x := Option.some.inj g2
      subst g2
      have hj : h.j < T.exc.length := (List.getElem?_eq_some_iff.mp he).1
      obtain ⟨C, e1, e2, _⟩ := F.at_ _ _ he
      have gl : Gl X ed.nm := by
        unfold isGl at g1
        show X.env.scope.names.lookup ed.nm = _
        rw [hsc]
        exact of_decide_eq_true g1
      have v1 := fun (Y : Cx) => lit_ofV (X := Y) (j := jj) (pos := p) g5
      have e3 : (match h.r with | .inl d => litV d | .inr _ => .non) = litV d := by rw [hd]
      refine ⟨.cons ⟨gl, by simpa using g3, .inl (by rw [e2, e1])⟩ (fun a oe cls dd pn _ _ => ?_) r1, .cons ⟨fun i hi => ?_, fun i hi => ?_, ⟨d, litV d, hd, (v1 X).2.2, (v1 X).2.1, by rw [e3]⟩⟩ r2⟩
      · rw [e3]
        exact pss_one (ps_ret (v1 _).1)
      · obtain ⟨q1, q2⟩ := band' (List.all_eq_true.mp g6 i hi)
        rw [F.mt i h.j (of_decide_eq_true q1) hj, q2]
      · obtain ⟨q1, q2⟩ := band' (List.all_eq_true.mp g7 i hi)
        rw [F.mt i h.j (of_decide_eq_true q1) hj]
        cases hm : T.mt i h.j with
        | false => rfl
        | true => rw [hm] at q2; cases q2
theorem vis_free {sc : Scope} {x : Str} : True := trivial
/-- what a def that calls what it gets makes of the lambda's reading -/
def tTh (K : PySem.W.Frag) (cv : Nat → Value) (h : Th) : (XK → Hp → VK → Prop) → Hp → VK → Prop := fun tl H Q =>
  ∃ Ech : XK, (∀ cls d H', Ech cls d H' → ∀ (D : Ends) σ', (∀ v H2, Q v H2 → D.rt v H2) → wMany K (fun _ _ _ _ => False) D (endsOf cv h.hs) cls d σ' H') ∧ tl Ech H (fun v H' => Q (if h.ret then v else litV h.last) H')
theorem th_gives {T : Tb} {X : Cx} {cv : Nat → Value} {h : Th} {Ng : List Str} {x a q : Str} {sg : Scope} {g : Addr} {cdg : Value} {bg : List Stmt} (F : ExF T X.K X.mg cv) (hc : chkTh T h a sg bg = true) (h0 : ∀ f : Addr, (L2.start Ng [V.ref f])[0]? = some (some (V.ref f))) :
    LamX.GivesTo X Ng x sg g cdg bg a q (tTh X.K cv h) := by
  intro f c' s H Q tl act hco hTT
  obtain ⟨Ech, hE, htl⟩ := hTT
  have FN : ∀ (s : Shared) (H : Hp), ExF T (cxOf C8.CX0 X.prog X.w X.K X.mg X.base Ng x sg g cdg X.A X.stack s H C8.E0).nox.K (cxOf C8.CX0 X.prog X.w X.K X.mg X.base Ng x sg g cdg X.A X.stack s H C8.E0).nox.mg cv := fun _ _ => F
  unfold chkTh at hc
  split at hc <;> first | (cases hc; done) | skip
  · rename_i b p1 p2 p3 hds p8 qq jj pq pr
    obtain ⟨h1, h2⟩ := band' hc
    obtain ⟨h1, hb⟩ := band' h1
    have hb := of_decide_eq_true hb
    subst hb
    obtain ⟨h2, h3⟩ := band' h2
    obtain ⟨h2, h4⟩ := band' h2
    have hr : h.ret = false := by simpa using h1
    obtain ⟨k1, k2⟩ := hd_ok (X := (cxOf C8.CX0 X.prog X.w X.K X.mg X.base Ng x sg g cdg X.A X.stack s H C8.E0).nox) (sc := sg) (FN s H) rfl h4
    cases hds with
    | nil => cases h2
    | cons h₀ hds =>
      refine ⟨_, pss_cons (ps_try_many (X := (cxOf C8.CX0 X.prog X.w X.K X.mg X.base Ng x sg g cdg X.A X.stack s H C8.E0).nox)
        (tb := fun W D σ H => ∃ Ech : XK, (∀ cls d σ' H', Ech cls d H' → W cls d σ' H') ∧ σ[0]? = some (some (.ref f)) ∧ H c' = some (LamX.CodeO c' q) ∧ tl Ech H fun v H' => D.nx σ H')
        rfl rfl LamX.takes0 (fun W pn xe tk _ => ?_) k1) (pss_one (ps_ret (lit_ofV (j := jj) (pos := pq) h3).1)), ?_⟩
      · refine pss_one ⟨fun pins s' σ H' D I h' => ?_⟩
        obtain ⟨Ech, hW, q1, q2, q3⟩ := h'
        exact (ps_expr (act W pn xe Ech p1 p2 tk hW) (by rfl)).run pins s' σ H' D I ⟨q1, q2, q3⟩
      · refine ⟨Ech, fun cls d σ' H' e => hE cls d H' e _ σ' fun v H2 z => z, h0 f, hco, ?_⟩
        rw [hr] at htl
        exact htl
  · rename_i b p1 p2 p3 hds p8
    obtain ⟨h1, h2⟩ := band' hc
    obtain ⟨hret, hb⟩ := band' h1
    have hb := of_decide_eq_true hb
    subst hb
    obtain ⟨h2, h4⟩ := band' h2
    obtain ⟨k1, k2⟩ := hd_ok (X := (cxOf C8.CX0 X.prog X.w X.K X.mg X.base Ng x sg g cdg X.A X.stack s H C8.E0).nox) (sc := sg) (FN s H) rfl h4
    cases hds with
    | nil => cases h2
    | cons h₀ hds =>
      refine ⟨_, pss_one (ps_try_many (X := (cxOf C8.CX0 X.prog X.w X.K X.mg X.base Ng x sg g cdg X.A X.stack s H C8.E0).nox)
        (tb := fun W D σ H => ∃ Ech : XK, (∀ cls d σ' H', Ech cls d H' → W cls d σ' H') ∧ σ[0]? = some (some (.ref f)) ∧ H c' = some (LamX.CodeO c' q) ∧ tl Ech H D.rt)
        rfl rfl LamX.takes0 (fun W pn xe tk _ => ?_) k1), ?_⟩
      · refine pss_one ⟨fun pins s' σ H' D I h' => ?_⟩
        obtain ⟨Ech, hW, q1, q2, q3⟩ := h'
        exact (ps_ret (act W pn xe Ech p1 p2 tk hW)).run pins s' σ H' D I ⟨q1, q2, q3⟩
      · refine ⟨Ech, fun cls d σ' H' e => hE cls d H' e _ σ' fun v H2 z => z, h0 f, hco, ?_⟩
        rw [hret] at htl
        exact htl
/-- what is known of such a def -/
structure ThAt (T : Tb) (K : PySem.W.Frag) (mg : Str → Option Value) (h : Th) : Prop where
  ex : ∃ (g : Addr) (oc : Value) (od an : Option Addr) (osl : Array (Option Value)) (pg : Arguments) (bg : List Stmt) (sg : Scope) (dV kV doc pm cdv ct : Value) (a : Str) (Ng : List Str), mg h.nm = some (.ref g) ∧ PySem.W.keepIn K (.ref g) = true ∧
    K.lookup g = some ⟨oc, od, .func (PySem.W.fnOf h.nm h.nm pg bg sg dV kV doc pm an cdv ct), osl⟩ ∧ PySem.W.codeIn K cdv h.nm = true ∧ L2.Binds K (PySem.W.fnOf h.nm h.nm pg bg sg dV kV doc pm an cdv ct) [a] [] ∧ FnScope Ng [a] sg ∧
    Ng[0]? = some a ∧ Vis sg a ∧ (a == ("__debug__" : Str)) = false ∧ (a == ("__classdict__" : Str)) = false ∧ chkTh T h a sg bg = true
/-- where a lambda may be made -/
structure LamF (X : Cx) (k : Nat) : Prop where
  room : Room (k + 2) X.A
  code : ∃ (c P : Addr) (i : Nat), X.env.code = .ref c ∧ LamX.TabB X.base X.mg c P ∧ (tabsOf X.K)[i]? = some (P, X.env.qual ++ "<lambda>")
theorem rp_lit {K : PySem.W.Frag} {d : D} {v v' : V} (ok : d = .non ∨ (∃ b, d = .bl b) ∨ (∃ i, d = .int i) ∨ ∃ s, d = .str s) {W W' : Wd} (r : Rp K W d v) (r' : Rp K W' d v') : v = v' := by
  rcases ok with rfl | ⟨b, rfl⟩ | ⟨i, rfl⟩ | ⟨s, rfl⟩ <;> (cases r; cases r'; rfl)
theorem grown_ok {K : PySem.W.Frag} {W : Wd} {s : Store} {H1 : Hp} {P : Addr} {q : Str} {i : Nat} (st : StOk K W s) (hi : (tabsOf K)[i]? = some (P, q)) (G : Grown W.H H1 P q) : Nxt W ⟨H1, W.as, W.F⟩ ∧ StOk K ⟨H1, W.as, W.F⟩ s := by
  obtain ⟨t1, t2⟩ := st.tab i _ hi
  have hP : P ∈ W.as := List.mem_of_getElem? t2
  obtain ⟨o, ho, hc⟩ := st.cell i _ P t1 t2
  have ho' : ∃ ps, o = .tbl ps := by cases o <;> first | exact ⟨_, rfl⟩ | exact hc.elim
  obtain ⟨ps, rfl⟩ := ho'
  have nP : ∀ b u, W.H b = some u → (∀ ps, u ≠ .tbl ps) → b ≠ P := fun b u e n z => by rw [z, ho] at e; cases e; exact n _ rfl
  have n0 : Nxt W ⟨H1, W.as, W.F⟩ := ⟨fun b u e nb => G.kp b u (fun z => nb (by rw [z]; exact hP)) e, fun b xs e => G.kp b _ (nP b _ e fun _ z => by cases z) e, fun b ob u e => G.kp b _ (nP b _ e fun _ z => by cases z) e, List.prefix_refl _, fun _ f => f, fun _ f => .inl f, fun _ f => .inl f⟩
  refine ⟨n0, ⟨st.len, st.nd, st.inF, fun b hb => ?_, fun n c b h1 h2 => ?_, st.tab⟩⟩
  · by_cases e : b = P
    · obtain ⟨ps1, h1, _⟩ := G.tb
      rw [e]
      show H1 P ≠ none
      rw [h1]; simp
    · cases hh : W.H b with
      | none => exact absurd hh (st.tr b hb)
      | some u =>
        show H1 b ≠ none
        rw [G.kp b u e hh]; simp
  · have h2 : W.as[n]? = some b := h2
    by_cases e : b = P
    · subst e
      have hn : n = i := by
        obtain ⟨g1, e1⟩ := List.getElem?_eq_some_iff.mp h2
        obtain ⟨g2, e2⟩ := List.getElem?_eq_some_iff.mp t2
        exact (List.getElem_inj st.nd).mp (e1.trans e2.symm)
      subst hn
      rw [t1] at h1
      cases h1
      obtain ⟨ps1, g1, g2, g3⟩ := G.tb
      refine ⟨.tbl ps1, g1, g2, fun pos cv hcv => ?_⟩
      obtain ⟨c, e1, e2⟩ := g3 pos cv hcv
      refine ⟨c, e1, fun z => ?_, e2⟩
      -- a code object is no cell
      obtain ⟨m, hm⟩ := List.getElem?_of_mem (show c ∈ W.as from z)
      have hl : m < s.length := by rw [st.len]; exact (List.getElem?_eq_some_iff.mp hm).1
      obtain ⟨o2, k1, k2⟩ := st.cell m _ c (List.getElem?_eq_getElem hl) hm
      by_cases ec : c = b
      · rw [ec, g1] at e2
        unfold LamX.CodeO at e2
        cases e2
      · rw [G.kp c o2 ec k1] at e2
        unfold LamX.CodeO at e2
        cases e2
        exact k2.ntf.2.2 _ rfl
    · obtain ⟨o2, k1, k2⟩ := st.cell n c b h1 h2
      exact ⟨o2, G.kp b o2 e k1, k2.imp n0.kc fun _ _ => n0.rpL st.inF⟩
section
variable {T : Tb} {X : Cx} {cv : Nat → Value} {wx : WX} {k : Nat} {f : Env → M D} {p lpos pos : Pos} {body : Expr} {scope : Scope} {params : Arguments}
theorem hds_q {K : PySem.W.Frag} {hs : List Hd} {W W' : Wd} {s' : Store} {e : Exc} {D : Ends} {σ σ' : L2.St} {Q : VK} (ok : ∀ h ∈ hs, ∃ d, h.r = .inl d ∧ (∀ W, Rp K W d (litV d))) (mt : ∀ h ∈ hs, (∀ i ∈ h.cs, PySem.W.exmOne K (cv i) (cv h.j) = some true) ∧ ∀ i ∈ h.ns, PySem.W.exmOne K (cv i) (cv h.j) = some false)
    (n : Nxt W W') (st : StOk K W' s') (h : Aft K cv W σ wx (hdR hs e s') fun d W' _ => ∀ v, Rp K W' d v → Q v W'.H) (hne : ∀ e2 s2, hdR hs e s' ≠ some (.err e2, s2)) (hD : ∀ v H2, Q v H2 → D.rt v H2) (d : Option Addr) : wMany K (fun _ _ _ _ => False) D (endsOf cv hs) (cv e.c) d σ' W'.H := by
  induction hs with
  | nil => exact (hne _ _ rfl).elim
  | cons h0 hs ih =>
    have hm := mt h0 (List.mem_cons_self ..)
    by_cases h1 : e.c ∈ h0.cs
    · obtain ⟨x, g1, g2⟩ := ok h0 (List.mem_cons_self ..)
      refine ⟨true, hm.1 _ h1, fun _ a _ => ?_, fun z => (by cases z)⟩
      have h2 : Aft K cv W σ wx (pur x s') fun d W' _ => ∀ v, Rp K W' d v → Q v W'.H := by
        unfold hdR at h
        rw [if_pos h1, g1] at h
        exact h
      show D.rt (match h0.r with | .inl d => litV d | .inr _ => .non) W'.H
      rw [g1]
      exact hD _ _ (h2 W' n st _ (g2 W'))
    · by_cases h2 : e.c ∈ h0.ns
      · refine ⟨false, hm.2 _ h2, fun z => (by cases z), fun _ => ih (fun y hy => ok y (List.mem_cons_of_mem _ hy)) (fun y hy => mt y (List.mem_cons_of_mem _ hy)) ?_ fun e2 s2 z => hne e2 s2 ?_⟩
        · unfold hdR at h
          rw [if_neg h1, if_pos h2] at h
          exact h
        · unfold hdR
          rw [if_neg h1, if_pos h2]
          exact z
      · exfalso
        unfold hdR at h
        rw [if_neg h1, if_neg h2] at h
        exact h
theorem hdR_ne : ∀ {hs : List Hd}, (hs.any fun y => y.ns.isEmpty) = true → ∀ e s e2 s2, hdR hs e s ≠ some (.err e2, s2)
  | [], h, _, _, _, _ => by cases h
  | y :: hs, h, e, s, e2, s2 => fun z => by
    unfold hdR at z
    by_cases h1 : e.c ∈ y.cs
    · rw [if_pos h1] at z
      cases hr : y.r with
      | inl d => rw [hr] at z; cases z
      | inr f =>
        rw [hr] at z
        cases hp : e.p with
        | none => rw [hp] at z; cases z
        | some gx =>
          obtain ⟨g, x⟩ := gx
          rw [hp] at z
          have z : (if g = f then asOk x else non) s = some (.err e2, s2) := z
          by_cases hg : g = f
          · rw [if_pos hg] at z
            unfold asOk at z
            cases ho : x.ok with
            | true => rw [ho] at z; cases z
            | false => rw [ho] at z; cases z
          · rw [if_neg hg] at z; cases z
    · rw [if_neg h1] at z
      by_cases h2 : e.c ∈ y.ns
      · rw [if_pos h2] at z
        refine hdR_ne ?_ e s e2 s2 z
        rw [List.any_cons] at h
        cases hn : y.ns with
        | nil => rw [hn] at h2; cases h2
        | cons _ _ => rw [hn] at h; exact h
      · rw [if_neg h2] at z
        cases z
theorem e_lam {h : Th} (F : ExF T X.K X.mg cv) (A : ThAt T X.K X.mg h) (LF : LamF X k) (hg : Gl X h.nm) (hdb : (h.nm == ("__debug__" : Str)) = false) (L : LamX.LamS X.env.scope scope) (hp : noParams params = true)
    (hh : ∀ y ∈ h.hs, ∃ d, y.r = .inl d ∧ (∀ W, Rp X.K W d (litV d))) (hm : ∀ y ∈ h.hs, (∀ i ∈ y.cs, PySem.W.exmOne X.K (cv i) (cv y.j) = some true) ∧ ∀ i ∈ y.ns, PySem.W.exmOne X.K (cv i) (cv y.j) = some false) (hl : h.ret = false → ∀ W, Rp X.K W h.last (litV h.last))
    (hne : (h.hs.any fun y => y.ns.isEmpty) = true)
    (hbody : ∀ (A : Around) (outer : List PySem.Env) (s : Shared) (H : Hp) (E : XK) (f' c' : Addr), Room k (A.deeper (LamX.lamEnv X scope s.heap.objs.size f' c')) → EvE (LamX.lamCx X A outer s H E scope f' c') cv (wxE E) body f) :
    EvE X cv wx (.Call (.Name h.nm p) [.Lambda params body scope lpos] [] pos) fun ρ => lamF h (f ρ) := by
  obtain ⟨g, oc, od, an, osl, pg, bg, sg, dV, kV, doc, pm, cdv, ct, a, Ng, a1, a2, a3, a4, a5, a6, a7, a8, a9, a10, a11⟩ := A.ex
  obtain ⟨c, P, i, b1, b2, b3⟩ := LF.code
  have h0 : ∀ f : Addr, (L2.start Ng [V.ref f])[0]? = some (some (V.ref f)) := fun f => by
    unfold L2.start
    rfl
  unfold noParams at hp
  split at hp <;> first | (cases hp; done) | skip
  refine PE.imp (pe_lamG (k := k) (TT := tTh X.K cv h) (t := fun E => tE X.K cv (wxE E) f) hg a1 a2 hdb a3 a4 a5 a6 a7 a8 a9 a10 (th_gives F a11 h0) b2 b1 LF.room L (by rfl) (fun _ _ _ _ _ => by rfl) hbody) fun σ H Q ⟨ρ, s, W0, W, e, at_, hA⟩ => ?_
  subst e
  obtain ⟨t1, t2⟩ := at_.st.tab i _ b3
  obtain ⟨o, ho, hc⟩ := at_.st.cell i _ P t1 t2
  refine ⟨?_, fun H1 G => ?_⟩
  · cases o <;> first | (exact hc.elim) | skip
    refine ⟨_, ho, hc.1, fun pos cv e => ?_⟩
    obtain ⟨c, e1, _, e2⟩ := hc.2 pos cv e
    exact ⟨c, e1, e2⟩
  obtain ⟨n1, st1⟩ := grown_ok at_.st b3 G
  have hA : Aft X.K cv W σ wx (lamF h (f ρ) s) fun d W' _ => ∀ v, Rp X.K W' d v → Q v W'.H := hA
  have hA1 := hA.step n1 st1.trk
  unfold lamF at hA1
  cases q : f ρ s with
  | none => rw [q] at hA1; exact hA1.elim
  | some z =>
    obtain ⟨z, s'⟩ := z
    rw [q] at hA1
    cases z with
    | ok x =>
      refine ⟨fun _ _ _ => False, fun _ _ _ z => z.elim, ρ, s, W0, ⟨H1, W.as, W.F⟩, rfl, at_.next n1 st1, ?_⟩
      rw [q]
      intro W' n st v rv
      by_cases hr : h.ret = true
      · rw [if_pos hr]
        have hA2 : Aft X.K cv ⟨H1, W.as, W.F⟩ σ wx (if h.ret then asOk x s' else some (.ok h.last, s')) fun d W' _ => ∀ v, Rp X.K W' d v → Q v W'.H := hA1
        rw [if_pos hr] at hA2
        unfold asOk at hA2
        cases ok : x.ok with
        | true => rw [ok] at hA2; exact hA2 W' n st v rv
        | false => rw [ok] at hA2; exact hA2.elim
      · rw [if_neg hr]
        have hA2 : Aft X.K cv ⟨H1, W.as, W.F⟩ σ wx (if h.ret then asOk x s' else some (.ok h.last, s')) fun d W' _ => ∀ v, Rp X.K W' d v → Q v W'.H := hA1
        rw [if_neg hr] at hA2
        exact hA2 W' n st _ (hl (by simpa using hr) W')
    | err ex =>
      refine ⟨fun cls d H' => ∀ (D : Ends) σ', (∀ v H2, Q v H2 → D.rt v H2) → wMany X.K (fun _ _ _ _ => False) D (endsOf cv h.hs) cls d σ' H', fun cls d H' e D σ' hD => e D σ' hD, ρ, s, W0, ⟨H1, W.as, W.F⟩, rfl, at_.next n1 st1, ?_⟩
      rw [q]
      intro W' n st cls d hE D σ' hD
      rw [hE.1]
      exact hds_q hh hm n st hA1 (hdR_ne hne ex s') hD d
end
end Ev

namespace Ev
open PySem PySem.Spec PyProof.Rows L2
open SX (S S_cat S_len S_inj S_tl)
theorem band {a b : Bool} (h : (a && b) = true) : a = true ∧ b = true := by simpa using h
structure XOk (T : Tb) (cv : Nat → Value) (Φ : Fun) (C : Nat → Option D) (k : Nat) (X : Cx) (c : Cc) (wx : WX) : Prop where
  N : X.N = c.N
  nd : c.N.Nodup
  sc : X.env.scope = c.sc
  calm : X.calm = true
  tk : Takes X wx
  room : Room k X.A
  top : c.top = true → ∀ x, X.fn x = true
  fns : ∀ (i : Nat) fd, T.fns[i]? = some fd → ∃ f fdt ps, X.mg fd.nm = some (.ref f) ∧ PySem.W.keepIn X.K (.ref f) = true ∧ L2.Binds X.K fdt ps [] ∧ FnOk X.prog X.w X.K X.mg X.base (L2.CX X.prog X.w) k f fdt ps (spF X.K cv (Φ i) fd.ps)
  con : ∀ (g : Nat) d, C g = some d → ∃ x u v, (T.cons[g]?).map (·.1) = some x ∧ X.mg x = some u ∧ RelV v u ∧ ∀ W, Rp X.K W d v
  blt : ∀ x ∈ T.blt, X.mg x = none
  exc : ExF T X.K X.mg cv
  thk : ∀ h ∈ T.thk, ThAt T X.K X.mg h
  lam : c.lam = true → LamF X k
theorem XOk.unit {T : Tb} {cv : Nat → Value} {Φ : Fun} {C : Nat → Option D} {k : Nat} {X : Cx} {c : Cc} {wx : WX} (o : XOk T cv Φ C k X c wx) : X.A.units + 1 < cLine := by
  have := o.room.un
  omega
section
variable {T : Tb} {cv : Nat → Value} {Φ : Fun} {C : Nat → Option D} {k : Nat} {X : Cx} {c : Cc} {wx : WX}
theorem XOk.blk (o : XOk T cv Φ C k X c wx) (s : Shared) (H : Hp) (scope : Scope) (cl : List (Str × Addr)) (Ca : Addr) (fp : List Addr) : XOk T cv Φ C k (X.blk s H scope (compEnvC scope cl Ca X.env) fp) (compTop c scope) (fun _ _ _ _ => False) where
  N := o.N
  nd := o.nd
  sc := by
    show relabel scope X.env = relS scope c.sc
    rw [← o.sc] <;> rfl
  calm := o.calm
  tk := takes0
  room := o.room
  top := fun h => by cases h
  fns := o.fns
  con := o.con
  blt := o.blt
  exc := o.exc
  thk := o.thk
  lam := fun h => by cases h
theorem vis_of (o : XOk T cv Φ C k X c wx) {x : Str} (h : visB c.sc x = true) : Vis X.env.scope x := by
  unfold visB at h
  unfold Vis
  rw [o.sc]
  split at h
  · rename_i e; exact .inl e
  · rename_i e; exact .inr (.inl e)
  · rename_i e; exact .inr (.inr e)
  · cases h
theorem var_of (o : XOk T cv Φ C k X c wx) {i : Nat} {x : Str} (h : isVar c i x = true) : X.N[i]? = some x ∧ Vis X.env.scope x ∧ (x == ("__debug__" : Str)) = false ∧ (x == ("__classdict__" : Str)) = false := by
  obtain ⟨h1, h⟩ := band h
  obtain ⟨h2, h⟩ := band h
  obtain ⟨h3, h4⟩ := band h
  exact ⟨by rw [o.N]; exact of_decide_eq_true h1, vis_of o h2, by simpa using h3, by simpa using h4⟩
theorem gl_of (o : XOk T cv Φ C k X c wx) {x : Str} (h : isGl c.sc x = true) : Gl X x := by
  unfold isGl at h
  have := of_decide_eq_true h
  show X.env.scope.names.lookup x = _
  rw [o.sc]; exact this
theorem loc_of (o : XOk T cv Φ C k X c wx) {i : Nat} {x : Str} (h : isLoc c i x = true) : X.N[i]? = some x ∧ L2.Loc X.env.scope x ∧ (X.fn x = true ∨ X.env.scope.names.lookup x = some .local) := by
  obtain ⟨h1, h⟩ := band h
  unfold L2.Loc
  rw [o.sc, o.N]
  refine ⟨of_decide_eq_true h1, ?_⟩
  split at h
  · rename_i e; exact ⟨.inl e, .inr e⟩
  · rename_i e; exact ⟨.inr e, .inl (o.top h x)⟩
  · cases h
theorem blt_of (o : XOk T cv Φ C k X c wx) {x y : Str} (h : isBlt T c.sc x y = true) : x = y ∧ Gl X x ∧ X.mg x = none ∧ x ≠ "__name__" ∧ (x == ("__debug__" : Str)) = false := by
  obtain ⟨h1, h⟩ := band h
  obtain ⟨h2, h⟩ := band h
  obtain ⟨h3, h⟩ := band h
  obtain ⟨h4, h5⟩ := band h
  exact ⟨of_decide_eq_true h1, gl_of o h2, o.blt x (of_decide_eq_true h3), fun e => by rw [e] at h4; simp at h4, by simpa using h5⟩
theorem star_of {e : Expr} {es : List Expr} {env : PySem.Env} (h : noStar e = true) : starEach (e :: es) env = (false, eval e env) :: starEach es env := by
  cases e <;> first | rfl | cases h
theorem stars_of {env : PySem.Env} {pos : Pos} : ∀ {es : List Expr}, es.all noStar = true → (backTo pos (starEach es env)).any (·.1) = false
  | [], _ => rfl
  | e :: es, h => by
    rw [List.all_cons] at h
    obtain ⟨h1, h2⟩ := band h
    rw [star_of h1]
    show (false || (backTo pos (starEach es env)).any (·.1)) = false
    rw [stars_of h2]; rfl
theorem plain_of {b : Expr} (h : noSlice b = true) : PlainIx b := by
  intro o i
  cases b <;> first | rfl | cases h
theorem mark_of {b : Expr} (op : CmpOp) (h : noSet b = true) : behindInMarks op b = false := by
  cases b <;> first | rfl | cases h
theorem fold_of {b : Expr} {env : PySem.Env} (h : noSet b = true) : ∀ x, foldedSetIterable b env x = pure x := by
  intro x
  cases b <;> first | rfl | cases h
theorem lit_of {d : D} {q : Const} {j : Nat} {pos : Pos} (h : litB d q = true) : ∃ v, PE X (.Constant q j pos) (tC v) ∧ ∀ W, Rp X.K W d v := by
  cases d with
  | non => cases q <;> first | exact ⟨.non, pe_non, fun _ => .non⟩ | cases h
  | bl a =>
    cases q with
    | bool b =>
      have e : a = b := by simpa [litB] using h
      subst e
      exact ⟨.bl a, pe_bl, fun _ => .bl a⟩
    | _ => cases h
  | int a =>
    cases q with
    | int b =>
      have e : a = b := by simpa [litB] using h
      subst e
      exact ⟨.int a, pe_int, fun _ => .int a⟩
    | _ => cases h
  | str a =>
    cases q with
    | str b =>
      obtain ⟨h1, h⟩ := band h
      obtain ⟨h2, h3⟩ := band h
      have e : S a = b := of_decide_eq_true h1
      subst e
      exact ⟨.str (S a), pe_str, fun _ => .str a h2 (of_decide_eq_true h3)⟩
    | _ => cases h
  | _ => cases q <;> cases h
theorem namesOf (o : XOk T cv Φ C k X c wx) : ∀ {is : List Nat} {es : List Expr}, namesB c is es = true → PGs X es (gNames is) ∧ (assignEach es X.env).length = is.length ∧ (assignEach es X.env).findIdx? (·.1) = none
  | [], [], _ => ⟨pgs_nil, rfl, rfl⟩
  | i :: is, .Name x pos :: es, h => by
    obtain ⟨h1, h2⟩ := band (show (isLoc c i x && namesB c is es) = true from h)
    obtain ⟨a, b, d⟩ := namesOf o h2
    obtain ⟨l1, l2, l3⟩ := loc_of o h1
    refine ⟨pgs_cons (pg_name (by rw [o.N]; exact o.nd) l1 l2 l3) a (by rfl), ?_, ?_⟩
    · show (assignEach es X.env).length + 1 = is.length + 1
      rw [b]
    · show (((false, assign (.Name x pos) X.env) :: assignEach es X.env).findIdx? (·.1)) = none
      rw [List.findIdx?_cons]
      simp [d]
  | [], _ :: _, h => by cases h
  | _ :: _, [], h => by cases h
  | i :: is, .BoolOp .. :: es, h => by cases h
  | i :: is, .NamedExpr .. :: es, h => by cases h
  | i :: is, .BinOp .. :: es, h => by cases h
  | i :: is, .UnaryOp .. :: es, h => by cases h
  | i :: is, .Lambda .. :: es, h => by cases h
  | i :: is, .IfExp .. :: es, h => by cases h
  | i :: is, .Dict .. :: es, h => by cases h
  | i :: is, .Set .. :: es, h => by cases h
  | i :: is, .ListComp .. :: es, h => by cases h
  | i :: is, .SetComp .. :: es, h => by cases h
  | i :: is, .DictComp .. :: es, h => by cases h
  | i :: is, .GeneratorExp .. :: es, h => by cases h
  | i :: is, .Await .. :: es, h => by cases h
  | i :: is, .Yield .. :: es, h => by cases h
  | i :: is, .YieldFrom .. :: es, h => by cases h
  | i :: is, .Compare .. :: es, h => by cases h
  | i :: is, .Call .. :: es, h => by cases h
  | i :: is, .FormattedValue .. :: es, h => by cases h
  | i :: is, .JoinedStr .. :: es, h => by cases h
  | i :: is, .Constant .. :: es, h => by cases h
  | i :: is, .Attribute .. :: es, h => by cases h
  | i :: is, .Subscript .. :: es, h => by cases h
  | i :: is, .Starred .. :: es, h => by cases h
  | i :: is, .List .. :: es, h => by cases h
  | i :: is, .Tuple .. :: es, h => by cases h
  | i :: is, .Slice .. :: es, h => by cases h
theorem tg_of (o : XOk T cv Φ C k X c wx) {is : List Nat} {e : Expr} (h : tgB c is e = true) : PG X e (gOf X.K is) := by
  unfold tgB at h
  split at h
  · rename_i i x pos
    obtain ⟨l1, l2, l3⟩ := loc_of o h
    exact pg_name (by rw [o.N]; exact o.nd) l1 l2 l3
  · cases h
  · rename_i es j pos hne1 hne2
    obtain ⟨a, b, d⟩ := namesOf o h
    have : gOf X.K is = gTup X.K is.length (gNames is) := by
      match is, hne1, hne2 with
      | [], _, _ => rfl
      | [i], hne1, hne2 => exact (hne2 i rfl).elim
      | _ :: _ :: _, _, _ => rfl
    rw [this]
    exact pg_tup o.calm a b d
  · cases h
end
end Ev

namespace Ev
open PySem PySem.Spec PyProof.Rows L2
open SX (S S_cat S_len S_inj S_tl)
section
variable {T : Tb} {cv : Nat → Value} {Φ : Fun} {C : Nat → Option D} {k : Nat} {X : Cx} {c : Cc} {wx : WX}
theorem kitAll : (["NoneType","bool","int","str","tuple","list"].all fun t => ["str","tuple","int","bool","list"].all fun s => kitB t s == some (t == s || (t == "bool" && s == "int"))) = true := by decide +kernel
theorem kit_at {t s : String} (ht : t ∈ ["NoneType","bool","int","str","tuple","list"]) (hs : s ∈ ["str","tuple","int","bool","list"]) : kitB t s = some (t == s || (t == "bool" && s == "int")) := by
  have := List.all_eq_true.mp (List.all_eq_true.mp kitAll t ht) s hs
  exact eq_of_beq this
theorem bin_tab {o : Bo} {op : Operator} (h : binOp o = some op) : ∃ r, OpR X (binaryOp op) r ∧ BopR X o r := by
  cases o <;> first
    | (cases h; exact ⟨_, op_addD, R_add⟩)
    | (cases h; exact ⟨_, op_sub, R_sub⟩)
    | (cases h; exact ⟨_, op_mulD, R_mul⟩)
    | (cases h; exact ⟨_, op_mod, R_mod⟩)
    | (cases h; exact ⟨_, op_fdiv, R_fdiv⟩)
    | (cases h; exact ⟨_, op_pow, R_pow⟩)
    | cases h
theorem cmp_tab (hr : Room k X.A) {o : Bo} {op : CmpOp} (h : cmpOp o = some op) : ∃ r, OpR X (compareOp op) r ∧ BopR X o r := by
  have hu : X.A.units + 64 < cLine := hr.units
  have hu2 : X.A.units + 65 < cLine := by have := hr.un; omega
  cases o <;> first
    | (cases h; exact ⟨_, op_eqD hu, R_eq⟩)
    | (cases h; exact ⟨_, op_neD hu, R_ne⟩)
    | (cases h; exact ⟨_, op_ltD, R_lt⟩)
    | (cases h; exact ⟨_, op_leD, R_le⟩)
    | (cases h; exact ⟨_, op_gtD, R_gt⟩)
    | (cases h; exact ⟨_, op_geD, R_ge⟩)
    | (cases h; exact ⟨_, op_inA hu2, R_inn⟩)
    | (cases h; exact ⟨_, op_ninA hu2, R_nin⟩)
    | (cases h; exact ⟨_, op_isD, R_is⟩)
    | (cases h; exact ⟨_, op_notD, R_isn⟩)
    | cases h
variable {e1 e2 : Expr} {fa fb : Env → M D} {p pos : Pos} {n t : Str}
theorem un_tab (o : XOk T cv Φ C k X c wx) {q : Uo} {s : String} (hq : unNm q = some s) (hb : isBlt T c.sc n s = true) (hs : noStar e1 = true) (ha : EvE X cv wx e1 fa) :
    EvE X cv wx (.Call (.Name n p) [e1] [] pos) fun ρ => bnd (fa ρ) fun x => ofO (uop q x) := by
  obtain ⟨rfl, g, m, h1, h2⟩ := blt_of o hb
  have st : starEach [e1] X.env = (false, eval e1 X.env) :: starEach [] X.env := star_of hs
  cases q <;> first | (cases hq; done) | skip
  · cases hq; exact e_un1 U_len (pe_callB (call_len_seq.or call_len_str) g m boot_len (pa_cons ha pa_nil st) h1 h2 st)
  · cases hq; exact e_un1 U_int (pe_callTy call_int1 g m PyProof.Rows.boot_int (pa_cons ha pa_nil st) h1 h2 st)
  · cases hq; exact e_un1 U_all (pe_callB (cr_all o.calm) g m PyProof.Rows.boot_all (pa_cons ha pa_nil st) h1 h2 st)
  · cases hq; exact e_un1 U_any (pe_callB (cr_any o.calm) g m PyProof.Rows.boot_any (pa_cons ha pa_nil st) h1 h2 st)
  · cases hq; exact e_un1 U_tuple (pe_callTy call_tupleX g m PyProof.Rows.boot_tuple (pa_cons ha pa_nil st) h1 h2 st)
  · cases hq; exact e_un1 U_list (pe_callTy call_list_of g m PyProof.Rows.boot_list (pa_cons ha pa_nil st) h1 h2 st)
theorem isi_tab (o : XOk T cv Φ C k X c wx) {q : Uo} {s : String} {pt : Pos} (hq : isiNm q = some s) (hb : isBlt T c.sc n "isinstance" = true) (ht : isBlt T c.sc t s = true) (hs : noStar e1 = true) (ha : EvE X cv wx e1 fa) :
    EvE X cv wx (.Call (.Name n p) [e1, .Name t pt] [] pos) fun ρ => bnd (fa ρ) fun x => ofO (uop q x) := by
  obtain ⟨rfl, g, m, h1, h2⟩ := blt_of o hb
  obtain ⟨rfl, g', m', h1', h2'⟩ := blt_of o ht
  have st : starEach [e1, .Name (s : Str) pt] X.env = (false, eval e1 X.env) :: starEach [.Name (s : Str) pt] X.env := star_of hs
  have st2 : starEach [.Name (s : Str) pt] X.env = (false, eval (.Name (s : Str) pt) X.env) :: starEach [] X.env := rfl
  have hv : bootBuiltins (s : Str) = some (.type s) := by
    cases q <;> first | (cases hq; done) | (cases hq; first | exact PyProof.Rows.boot_str | exact PyProof.Rows.boot_tuple | exact PyProof.Rows.boot_int | exact PyProof.Rows.boot_bool | exact PyProof.Rows.boot_list)
  have hpl : (backTo pos (starEach [.Name (s : Str) pt] X.env)).any (·.1) = false := by rw [st2]; rfl
  have he : PE X (.Call (.Name ("isinstance" : Str) p) [e1, .Name (s : Str) pt] [] pos) (tCB (rIsi X.K) (tCons (tE X.K cv wx fa) (tCons (tC (.ty s)) tNil))) :=
    pe_callB call_isi g m PyProof.Rows.boot_isinstance (pa_cons ha (pa_cons (pe_bltn g' m' hv rfl h1' h2') pa_nil st2) st) h1 h2 st hpl
  refine e_isi (T := s) (fun ty d ⟨x, hx, hd⟩ => ?_) (fun x d hd => ?_) he
  · cases q <;> first
      | (cases hq; done)
      | (cases hq; cases x <;> first | (cases hx; done) | (cases hd; done) | (cases hx; cases hd; exact ⟨_, rfl, kit_at (by simp) (by simp)⟩))
  · cases q <;> first
      | (cases hq; done)
      | (cases x <;> first | (cases hd; done) | exact ⟨_, rfl⟩)
theorem mm_tab (o : XOk T cv Φ C k X c wx) {q : Bo} {s : String} (hq : mmNm q = some s) (hb : isBlt T c.sc n s = true) (hs : noStar e1 = true) (hs2 : noStar e2 = true) (ha : EvE X cv wx e1 fa) (hb2 : EvE X cv wx e2 fb) :
    EvE X cv wx (.Call (.Name n p) [e1, e2] [] pos) fun ρ => bnd (fa ρ) fun x => bnd (fb ρ) fun y => ofO (bop q x y) := by
  obtain ⟨rfl, g, m, h1, h2⟩ := blt_of o hb
  have st : starEach [e1, e2] X.env = (false, eval e1 X.env) :: starEach [e2] X.env := star_of hs
  have st2 : starEach [e2] X.env = (false, eval e2 X.env) :: starEach [] X.env := star_of hs2
  have hpl : (backTo pos (starEach [e2] X.env)).any (·.1) = false := by rw [st2]; rfl
  cases q <;> first | (cases hq; done) | skip
  · cases hq
    refine e_mm (r := fun xs H Q => ∃ i j, xs = [.int i, .int j] ∧ Q (.int (if j < i then j else i)) H) (fun i j => ⟨_, rfl, fun H Q q => ⟨i, j, rfl, q⟩⟩) (fun x y d hd => ?_) (pe_callB (call_min2 o.calm) g m PyProof.Rows.boot_min (pa_cons ha (pa_cons hb2 pa_nil st2) st) h1 h2 st hpl)
    cases x <;> cases y <;> first | (cases hd; done) | exact ⟨⟨_, rfl⟩, _, rfl⟩
  · cases hq
    refine e_mm (r := fun xs H Q => ∃ i j, xs = [.int i, .int j] ∧ Q (.int (if j > i then j else i)) H) (fun i j => ⟨_, rfl, fun H Q q => ⟨i, j, rfl, q⟩⟩) (fun x y d hd => ?_) (pe_callB (call_max2 o.calm) g m PyProof.Rows.boot_max (pa_cons ha (pa_cons hb2 pa_nil st2) st) h1 h2 st hpl)
    cases x <;> cases y <;> first | (cases hd; done) | exact ⟨⟨_, rfl⟩, _, rfl⟩

/-- what holds of a piece of the small language -/
structure Snd (T : Tb) (cv : Nat → Value) (Φ : Fun) (C : Nat → Option D) (k : Nat) (x : Ex) : Prop where
  e : ∀ {X c wx e}, XOk T cv Φ C k X c wx → chk T x c e = true → EvE X cv wx e (ev Φ C x) ∧ EvT X cv wx e (fun ρ => bnd (ev Φ C x ρ) asBl) ∧ (∀ op vs pos, e = .BoolOp op vs pos → PW X e (tT X.K cv wx fun ρ => bnd (ev Φ C x ρ) asBl))
  l : ∀ {X c wx es}, XOk T cv Φ C k X c wx → chkL T x c es = true → EvA X cv wx es (evL Φ C x) ∧ ∀ ρ s ds s', evL Φ C x ρ s = some (.ok ds, s') → ds.length = es.length
  o : ∀ {X c wx eo}, XOk T cv Φ C k X c wx → chkO T x c eo = true → PO X eo (tO X.K cv wx (evO Φ C x))
  t : ∀ {X c wx ifs}, XOk T cv Φ C k X c wx → chkC T x c ifs = true → PTs X ifs (tT X.K cv wx (evC Φ C x))
  i : ∀ {X c wx tg e}, XOk T cv Φ C k X c wx → chkI T x c tg e = true → EvI X cv wx tg e (itr Φ C x)
  p : ∀ {X c wx ks keys vals pos}, XOk T cv Φ C k X c wx → chkP T x ks c keys vals = true → ∃ trs, PPs X pos keys vals trs ∧ ∀ σ H Q, tP X.K cv wx (evL Φ C x) ks σ H Q → tPairs trs σ H Q
  n : ∀ {X c wx e}, XOk T cv Φ C k X c wx → isNew x = true → chk T x c e = true → ∃ fl, EvN X cv wx e fl ∧ ∀ (ρ : Env) (β : Type) (K : List D → M β), bnd (ev Φ C x ρ) (lstK K) = bnd (fl ρ) K
theorem lstK_pur {β : Type} (m : M (List D)) (K : List D → M β) : bnd (bnd m fun ds => pur (.lst ds)) (lstK K) = bnd m K := by
  rw [bnd_assoc]; rfl
theorem lst_len {α : Type} {m : M α} {s s' : Store} {b : List D} {f : α → M (List D)} : True := trivial
/-- the parts that lie at hand for a value -/
theorem t_plain {e : Expr} {f : Env → M D} (he : EvE X cv wx e f) (hp : ∀ whole, isTrue e X.env whole = (do let v ← whole; standAt e.pos; holding [v] (truthy v))) (hn : ∀ op vs pos, e ≠ .BoolOp op vs pos) :
    EvE X cv wx e f ∧ EvT X cv wx e (fun ρ => bnd (f ρ) asBl) ∧ (∀ op vs pos, e = .BoolOp op vs pos → PW X e (tT X.K cv wx fun ρ => bnd (f ρ) asBl)) :=
  ⟨he, t_val he hp, fun op vs pos q => absurd q (hn op vs pos)⟩
theorem bl_bnd (m : M D) : (bnd (bnd m fun x => bnd (asBl x) fun k => pur (D.bl (!k))) asBl) = bnd (bnd m asBl) fun k => pur (!k) := by
  simp only [bnd_assoc]; rfl
theorem and_bnd (m m' : M D) : (bnd (bnd m fun x => bnd (asBl x) fun k => if k then m' else pur (D.bl false)) asBl) = bnd (bnd m asBl) fun k => if k then bnd m' asBl else pur false := by
  simp only [bnd_assoc]
  congr 1
  funext x
  congr 1
  funext k
  cases k <;> rfl
theorem or_bnd (m m' : M D) : (bnd (bnd m fun x => bnd (asBl x) fun k => if k then pur (D.bl true) else m') asBl) = bnd (bnd m asBl) fun k => if k then pur true else bnd m' asBl := by
  simp only [bnd_assoc]
  congr 1
  funext x
  congr 1
  funext k
  cases k <;> rfl
theorem addL_bnd {β : Type} (m m' : M D) (K : List D → M β) : bnd (bnd m fun x => bnd m' fun y => ofO (bop .add x y)) (lstK K) =
    bnd (bnd m fun x => bnd m' fun y => ofO (x.lst?.bind fun l => y.lst?.bind fun r => if l.length + r.length ≤ lim then some (l ++ r) else none)) K := by
  simp only [bnd_assoc]
  congr 1
  funext x
  congr 1
  funext y
  have fall : bop .add x y = (x.lst?.bind fun l => y.lst?.bind fun r => if l.length + r.length ≤ lim then some (D.lst (l ++ r)) else none) → bnd (ofO (bop .add x y)) (lstK K) = bnd (ofO (x.lst?.bind fun l => y.lst?.bind fun r => if l.length + r.length ≤ lim then some (l ++ r) else none)) K := by
    intro e
    rw [e]
    cases x.lst? with
    | none => rfl
    | some l =>
      cases y.lst? with
      | none => rfl
      | some r =>
        show bnd (ofO (if l.length + r.length ≤ lim then some (D.lst (l ++ r)) else none)) (lstK K) = bnd (ofO (if l.length + r.length ≤ lim then some (l ++ r) else none)) K
        by_cases h : l.length + r.length ≤ lim
        · rw [if_pos h, if_pos h]; rfl
        · rw [if_neg h, if_neg h]; rfl
  cases x with
  | int i => cases y <;> first | exact fall rfl | rfl
  | str i =>
    cases y with
    | str j =>
      show bnd (ofO (if i.length + j.length ≤ lim then some (D.str (i ++ j)) else none)) (lstK K) = _
      by_cases h : i.length + j.length ≤ lim
      · rw [if_pos h]; rfl
      · rw [if_neg h]; rfl
    | _ => exact fall rfl
  | tup i =>
    cases y with
    | tup j =>
      show bnd (ofO (if i.length + j.length ≤ lim then some (D.tup (i ++ j)) else none)) (lstK K) = _
      by_cases h : i.length + j.length ≤ lim
      · rw [if_pos h]; rfl
      · rw [if_neg h]; rfl
    | _ => exact fall rfl
  | _ => cases y <;> exact fall rfl
/-- list + list as a new list -/
theorem n_add (ha : EvE X cv wx e1 fa) (hb : EvE X cv wx e2 fb) : EvN X cv wx (.BinOp e1 .Add e2 pos) fun ρ => bnd (fa ρ) fun x => bnd (fb ρ) fun y => ofO (x.lst?.bind fun l => y.lst?.bind fun r => if l.length + r.length ≤ lim then some (l ++ r) else none) := by
  refine PE.imp (pe_op op_catS ha hb) fun σ H Q ⟨ρ, s, W0, W, e, at_, h⟩ => ?_
  refine ⟨ρ, s, W0, W, e, at_, h.bnd.mono fun x W1 s1 n1 st1 h1 u ru => ?_⟩
  refine ⟨ρ, s1, W0, W1, rfl, at_.next n1 st1, h1.bnd.mono fun y W2 s2 n2 st2 h2 v rv => ?_⟩
  obtain ⟨ds, e2, h3⟩ := h2.ofO
  cases g1 : x.lst? with
  | none => rw [g1] at e2; cases e2
  | some l =>
    cases g2 : y.lst? with
    | none => rw [g1, g2] at e2; cases e2
    | some r =>
      rw [g1, g2] at e2
      have e3 : (if l.length + r.length ≤ lim then some (l ++ r) else none) = some ds := e2
      by_cases hz : l.length + r.length ≤ lim
      · rw [if_pos hz] at e3
        cases e3
        obtain ⟨a, xs, rfl, q1, z1, r1⟩ := lst_of g1 (n2.rp st1.inF ru)
        obtain ⟨b, ys, rfl, q2, z2, r2⟩ := lst_of g2 rv
        refine ⟨a, b, xs, ys, rfl, rfl, q1, q2, by rw [← lim_eq, ← r1.length, ← r2.length]; exact hz, fun p hp => ?_⟩
        exact h3 W2 Nxt.refl st2 _ p (r1.append r2) (by rw [List.length_append]; exact hz) hp
      · rw [if_neg hz] at e3; cases e3
end
end Ev

namespace Ev
open PySem PySem.Spec PyProof.Rows L2
open SX (S S_cat S_len S_inj S_tl)
section
theorem isTrue_ifE (test body orelse : Expr) (x1 : Pos) (env : PySem.Env) (x2 : Sem Value) : isTrue (.IfExp test body orelse x1) env x2 = (do if ← isTrue test env (eval test env) then isTrue body env (eval body env) else isTrue orelse env (eval orelse env)) := rfl
variable {T : Tb} {cv : Nat → Value} {Φ : Fun} {C : Nat → Option D} {k : Nat} {a b d r : Ex}
theorem e_none {X : Cx} {wx : WX} {e : Expr} : EvE X cv wx e (fun _ => ofO (none : Option D)) := ⟨fun pins s σ H Q I ⟨ρ, s, W0, W, eH, at_, hh⟩ => False.elim hh⟩
theorem t_ite {X : Cx} {wx : WX} {c a b : Expr} {pos : Pos} {ft fu fv : Env → M Bool} (hc : EvT X cv wx c ft) (ha : EvT X cv wx a fu) (hb : EvT X cv wx b fv) : EvT X cv wx (.IfExp c a b pos) fun ρ => bnd (ft ρ) fun k => if k then fu ρ else fv ρ := by
  have h1 : PT X (.IfExp c a b pos) (fun σ H Q => tT X.K cv wx ft σ H fun k H1 => if k = true then tT X.K cv wx fu σ H1 Q else tT X.K cv wx fv σ H1 Q) := by
    refine ⟨fun pins s σ H Q I h => ?_⟩
    rw [isTrue_ifE]
    refine wpAny_bind (thn (hc.run pins s σ H _ I h) fun k s1 ⟨H1, I1, q1⟩ => ?_)
    cases k with
    | true => exact ha.run pins s1 σ H1 Q I1 q1
    | false => exact hb.run pins s1 σ H1 Q I1 q1
  refine PT.imp h1 fun σ H Q ⟨ρ, s, W0, W, e, at_, h⟩ => ⟨ρ, s, W0, W, e, at_, h.bnd.mono fun k W1 s1 n1 st1 h1 => ?_⟩
  cases k with
  | true => exact ⟨ρ, s1, W0, W1, rfl, at_.next n1 st1, h1⟩
  | false => exact ⟨ρ, s1, W0, W1, rfl, at_.next n1 st1, h1⟩
theorem ite_bnd (m : M Bool) (m1 m2 : M D) : bnd (bnd m fun k => if k then m1 else m2) asBl = bnd m fun k => if k then bnd m1 asBl else bnd m2 asBl := by
  rw [bnd_assoc]
  congr 1
  funext k
  cases k <;> rfl
theorem t_yes {X : Cx} {wx : WX} : PTs X [] (tT X.K cv wx fun _ => pur true) := ⟨fun pins s σ H Q I ⟨ρ, s', W0, W, e, at_, h⟩ => pts_nil.run pins s σ H Q I (by subst e; exact h.pur at_.st)⟩
theorem last_of (op op' : CmpOp) (b : Expr) {c : Expr} (h : noSet c = true) : lastMarks [op, op'] [b, c] = false := by
  cases c <;> first | rfl | cases h
theorem cel_form {c : Cc} {X : Cx} {e : Expr} (h1 : isNew a = true) (h2 : chk T a c e = true) : (∀ whole, isTrue e X.env whole = (do let v ← whole; standAt e.pos; holding [v] (truthy v))) ∧ (∀ op vs pos, e ≠ .BoolOp op vs pos) := by
  cases a <;> first | (cases h1; done) | skip
  · unfold chk at h2
    split at h2 <;> first | (cases h2; done) | skip
    all_goals (rename_i h1; cases h1)
    exact ⟨fun _ => rfl, fun _ _ _ q => by cases q⟩
  · rename_i u x y
    cases u <;> first | (cases h1; done) | skip
    unfold chk at h2
    split at h2 <;> first | (cases h2; done) | skip
    all_goals (rename_i h1; cases h1)
    · exact ⟨fun _ => rfl, fun _ _ _ q => by cases q⟩
    · have := of_decide_eq_true (band h2).1
      cases this
    · exact ⟨fun _ => rfl, fun _ _ _ q => by cases q⟩
    · exact ⟨fun _ => rfl, fun _ _ _ q => by cases q⟩
  · unfold chk at h2
    split at h2 <;> first | (cases h2; done) | skip
    all_goals (rename_i h1; cases h1)
    exact ⟨fun _ => rfl, fun _ _ _ q => by cases q⟩
theorem snd_var {i : Nat} : Snd T cv Φ C k (.var i) where
  e := fun {X c wx e} o h => by
    unfold chk at h
    split at h <;> first | (cases h; done) | skip
    all_goals (rename_i h1; cases h1)
    obtain ⟨h1, h2, h3, h4⟩ := var_of o h
    exact t_plain (f := fun ρ => ofO (slot ρ i)) (e_var h1 h2 h3 h4) (fun _ => rfl) (fun _ _ _ q => by cases q)
  l := fun _ h => by cases h
  o := fun _ h => by cases h
  t := fun _ h => by cases h
  i := fun _ h => by cases h
  p := fun _ h => by cases h
  n := fun _ h => by cases h
theorem snd_lit {d : D} : Snd T cv Φ C k (.lit d) where
  e := fun {X c wx e} o h => by
    unfold chk at h
    split at h <;> first | (cases h; done) | skip
    all_goals (rename_i h1; cases h1)
    obtain ⟨v, h1, h2⟩ := lit_of h
    exact t_plain (f := fun ρ => pur d) (e_const h1 h2) (fun _ => rfl) (fun _ _ _ q => by cases q)
  l := fun _ h => by cases h
  o := fun _ h => by cases h
  t := fun _ h => by cases h
  i := fun _ h => by cases h
  p := fun _ h => by cases h
  n := fun _ h => by cases h
theorem snd_con {g : Nat} : Snd T cv Φ C k (.con g) where
  e := fun {X c wx e} o h => by
    unfold chk at h
    split at h <;> first | (cases h; done) | skip
    all_goals (rename_i h1; cases h1)
    obtain ⟨h1, h2⟩ := band h
    obtain ⟨h2, h3⟩ := band h2
    have h2 := of_decide_eq_true h2
    cases hc : C g with
    | none =>
      have : ev Φ C (.con g) = fun _ => ofO (none : Option D) := by funext ρ; show ofO (C g) = _; rw [hc]
      rw [this]
      exact t_plain e_none (fun _ => rfl) (fun _ _ _ q => by cases q)
    | some d =>
      obtain ⟨x, u, v, e1, e2, e3, e4⟩ := o.con g d hc
      rw [h2] at e1
      cases e1
      have : ev Φ C (.con g) = fun _ => pur d := by funext ρ; show ofO (C g) = _; rw [hc]; rfl
      rw [this]
      exact t_plain (f := fun ρ => pur d) (e_const (pe_glob (gl_of o h1) e2 e3 (by simpa using h3)) e4) (fun _ => rfl) (fun _ _ _ q => by cases q)
  l := fun _ h => by cases h
  o := fun _ h => by cases h
  t := fun _ h => by cases h
  i := fun _ h => by cases h
  p := fun _ h => by cases h
  n := fun _ h => by cases h
theorem snd_tup (S : Snd T cv Φ C k a) : Snd T cv Φ C k (.tup a) where
  e := fun {X c wx e} o h => by
    unfold chk at h
    split at h <;> first | (cases h; done) | skip
    all_goals (rename_i h1; cases h1)
    obtain ⟨h1, h2⟩ := band h
    have h1 := of_decide_eq_true h1
    obtain ⟨q1, q2⟩ := S.l o h2
    exact t_plain (f := fun ρ => bnd (evL Φ C a ρ) fun ds => pur (.tup ds)) (e_tup q1 h1 q2) (fun _ => rfl) (fun _ _ _ q => by cases q)
  l := fun _ h => by cases h
  o := fun _ h => by cases h
  t := fun _ h => by cases h
  i := fun _ h => by cases h
  p := fun _ h => by cases h
  n := fun _ h => by cases h
theorem snd_lst (S : Snd T cv Φ C k a) : Snd T cv Φ C k (.lst a) where
  e := fun {X c wx e} o h => by
    unfold chk at h
    split at h <;> first | (cases h; done) | skip
    all_goals (rename_i h1; cases h1)
    obtain ⟨h1, h2⟩ := band h
    have h1 := of_decide_eq_true h1
    obtain ⟨q1, q2⟩ := S.l o h2
    exact t_plain (f := fun ρ => bnd (evL Φ C a ρ) fun ds => pur (.lst ds)) (e_frz (n_lst q1 h1 q2)) (fun _ => rfl) (fun _ _ _ q => by cases q)
  l := fun _ h => by cases h
  o := fun _ h => by cases h
  t := fun _ h => by cases h
  i := fun _ h => by cases h
  p := fun _ h => by cases h
  n := fun {X c wx e} o _ h => by
    unfold chk at h
    split at h <;> first | (cases h; done) | skip
    all_goals (rename_i h1; cases h1)
    obtain ⟨h1, h2⟩ := band h
    have h1 := of_decide_eq_true h1
    obtain ⟨q1, q2⟩ := S.l o h2
    exact ⟨evL Φ C a, n_lst q1 h1 q2, fun ρ β K => lstK_pur _ _⟩
theorem snd_un {u : Uo} (S : Snd T cv Φ C k a) : Snd T cv Φ C k (.un u a) where
  e := fun {X c wx e} o h => by
    unfold chk at h
    split at h <;> first | (cases h; done) | skip
    all_goals (rename_i h1; cases h1)
    · obtain ⟨h1, h2⟩ := band h
      obtain rfl := of_decide_eq_true h1
      exact t_plain (f := fun ρ => bnd (ev Φ C a ρ) fun x => ofO (uop .neg x)) (e_neg (S.e o h2).1) (fun _ => rfl) (fun _ _ _ q => by cases q)
    · split at h
      · rename_i s hs
        obtain ⟨h1, h2⟩ := band h
        obtain ⟨h2, h3⟩ := band h2
        exact t_plain (f := fun ρ => bnd (ev Φ C a ρ) fun x => ofO (uop u x)) (un_tab o hs h1 h2 (S.e o h3).1) (fun _ => rfl) (fun _ _ _ q => by cases q)
      · cases h
    · split at h
      · rename_i s hs
        obtain ⟨h1, h2⟩ := band h
        obtain ⟨h2, h3⟩ := band h2
        obtain ⟨h3, h4⟩ := band h3
        exact t_plain (f := fun ρ => bnd (ev Φ C a ρ) fun x => ofO (uop u x)) (isi_tab o hs h1 h2 h3 (S.e o h4).1) (fun _ => rfl) (fun _ _ _ q => by cases q)
      · cases h
    · obtain ⟨h1, h2⟩ := band h
      obtain rfl := of_decide_eq_true h1
      exact t_plain (f := fun ρ => bnd (ev Φ C a ρ) fun x => ofO (uop .rev x)) (e_rev (S.e o h2).1) (fun _ => rfl) (fun _ _ _ q => by cases q)
  l := fun _ h => by cases h
  o := fun _ h => by cases h
  t := fun _ h => by cases h
  i := fun _ h => by cases h
  p := fun _ h => by cases h
  n := fun _ h => by cases h
theorem snd_bi {u : Bo} (Sa : Snd T cv Φ C k a) (Sb : Snd T cv Φ C k b) : Snd T cv Φ C k (.bi u a b) where
  e := fun {X c wx e} o h => by
    unfold chk at h
    split at h <;> first | (cases h; done) | skip
    all_goals (rename_i h1; cases h1)
    · obtain ⟨h1, h2⟩ := band h
      obtain ⟨h2, h3⟩ := band h2
      obtain ⟨r, ho, hr⟩ := bin_tab (X := X) (of_decide_eq_true h1)
      exact t_plain (f := fun ρ => bnd (ev Φ C a ρ) fun x => bnd (ev Φ C b ρ) fun y => ofO (bop u x y)) (e_bi ho hr (Sa.e o h2).1 (Sb.e o h3).1) (fun _ => rfl) (fun _ _ _ q => by cases q)
    · obtain ⟨h1, h2⟩ := band h
      obtain ⟨h2, h3⟩ := band h2
      obtain ⟨h3, h4⟩ := band h3
      obtain ⟨r, ho, hr⟩ := cmp_tab o.room (of_decide_eq_true h1)
      exact ⟨e_cmp ho (mark_of _ h2) hr (Sa.e o h3).1 (Sb.e o h4).1, t_cmp ho (mark_of _ h2) hr (Sa.e o h3).1 (Sb.e o h4).1, fun _ _ _ q => by cases q⟩
    · obtain ⟨h1, h2⟩ := band h
      obtain ⟨h2, h3⟩ := band h2
      obtain ⟨h3, h4⟩ := band h3
      obtain rfl := of_decide_eq_true h1
      exact t_plain (f := fun ρ => bnd (ev Φ C a ρ) fun x => bnd (ev Φ C b ρ) fun y => ofO (bop .ix x y)) (e_ix (plain_of h2) (Sa.e o h3).1 (Sb.e o h4).1) (fun _ => rfl) (fun _ _ _ q => by cases q)
    · split at h
      · rename_i s hs
        obtain ⟨h1, h2⟩ := band h
        obtain ⟨h2, h3⟩ := band h2
        obtain ⟨h2, h2'⟩ := band h2
        obtain ⟨h3, h4⟩ := band h3
        exact t_plain (f := fun ρ => bnd (ev Φ C a ρ) fun x => bnd (ev Φ C b ρ) fun y => ofO (bop u x y)) (mm_tab o hs h1 h2 h2' (Sa.e o h3).1 (Sb.e o h4).1) (fun _ => rfl) (fun _ _ _ q => by cases q)
      · cases h
  l := fun _ h => by cases h
  o := fun _ h => by cases h
  t := fun _ h => by cases h
  i := fun _ h => by cases h
  p := fun _ h => by cases h
  n := fun {X c wx e} o hn h => by
    unfold chk at h
    split at h <;> first | (cases h; done) | skip
    all_goals (rename_i h1; cases h1)
    · obtain ⟨h1, h2⟩ := band h
      obtain ⟨h2, h3⟩ := band h2
      have h1 := of_decide_eq_true h1
      cases u <;> first | (cases hn; done) | skip
      cases h1
      exact ⟨_, n_add (Sa.e o h2).1 (Sb.e o h3).1, fun ρ β K => addL_bnd _ _ _⟩
    · obtain ⟨h1, h2⟩ := band h
      have h1 := of_decide_eq_true h1
      cases u <;> first | (cases hn; done) | (cases h1; done)
    · obtain ⟨h1, h2⟩ := band h
      have h1 := of_decide_eq_true h1
      cases u <;> first | (cases hn; done) | (cases h1; done)
    · cases u <;> first | (cases hn; done) | (cases h; done)
theorem snd_ch {u p : Bo} (Sa : Snd T cv Φ C k a) (Sb : Snd T cv Φ C k b) (Sd : Snd T cv Φ C k d) : Snd T cv Φ C k (.ch u p a b d) where
  e := fun {X c wx e} o h => by
    unfold chk at h
    split at h <;> first | (cases h; done) | skip
    all_goals (rename_i h1; cases h1)
    obtain ⟨h1, h2⟩ := band h
    obtain ⟨h2, h3⟩ := band h2
    obtain ⟨h3, h4⟩ := band h3
    obtain ⟨h4, h5⟩ := band h4
    obtain ⟨h5, h6⟩ := band h5
    obtain ⟨r, ho, hr⟩ := cmp_tab o.room (of_decide_eq_true h1)
    obtain ⟨r', ho', hr'⟩ := cmp_tab o.room (of_decide_eq_true h2)
    exact ⟨e_chain ho ho' hr hr' (last_of _ _ _ h3) (Sa.e o h4).1 (Sb.e o h5).1 (Sd.e o h6).1, t_chain ho ho' hr hr' (last_of _ _ _ h3) (Sa.e o h4).1 (Sb.e o h5).1 (Sd.e o h6).1, fun _ _ _ q => by cases q⟩
  l := fun _ h => by cases h
  o := fun _ h => by cases h
  t := fun _ h => by cases h
  i := fun _ h => by cases h
  p := fun _ h => by cases h
  n := fun _ h => by cases h
theorem snd_not (Sa : Snd T cv Φ C k a) : Snd T cv Φ C k (.not a) where
  e := fun {X c wx e} o h => by
    unfold chk at h
    split at h <;> first | (cases h; done) | skip
    all_goals (rename_i h1; cases h1)
    refine ⟨e_not (Sa.e o h).1, ?_, fun _ _ _ q => by cases q⟩
    have := t_not (pos := ‹Pos›) (Sa.e o h).2.1
    show EvT X cv wx _ fun ρ => bnd (bnd (ev Φ C a ρ) fun x => bnd (asBl x) fun k => pur (D.bl (!k))) asBl
    simp only [bl_bnd]
    exact this
  l := fun _ h => by cases h
  o := fun _ h => by cases h
  t := fun _ h => by cases h
  i := fun _ h => by cases h
  p := fun _ h => by cases h
  n := fun _ h => by cases h
theorem snd_and (Sa : Snd T cv Φ C k a) (Sb : Snd T cv Φ C k b) : Snd T cv Φ C k (.and a b) where
  e := fun {X c wx e} o h => by
    unfold chk at h
    split at h <;> first | (cases h; done) | skip
    all_goals (rename_i h1; cases h1)
    obtain ⟨h1, h2⟩ := band h
    have key : ∀ es pos, EvE X cv wx (.BoolOp .And es pos) (ev Φ C b) → PW X (.BoolOp .And es pos) (tT X.K cv wx fun ρ => bnd (ev Φ C b ρ) asBl) → ∀ e1 e2 r, es = e2 :: r → chk T a c e1 = true → EvE X cv wx (.BoolOp .And (e1 :: es) pos) (ev Φ C (.and a b)) ∧ EvT X cv wx (.BoolOp .And (e1 :: es) pos) (fun ρ => bnd (ev Φ C (.and a b) ρ) asBl) ∧ (∀ op vs pos', (.BoolOp .And (e1 :: es) pos : Expr) = .BoolOp op vs pos' → PW X (.BoolOp .And (e1 :: es) pos) (tT X.K cv wx fun ρ => bnd (ev Φ C (.and a b) ρ) asBl)) := by
      intro es pos q1 q2 e1 e2 r he hc
      subst he
      have hw : PW X (.BoolOp .And (e1 :: e2 :: r) pos) (tT X.K cv wx fun ρ => bnd (ev Φ C (.and a b) ρ) asBl) := by
        have := w_and (Sa.e o hc).2.1 q2
        show PW X (.BoolOp .And (e1 :: e2 :: r) pos) (tT X.K cv wx fun ρ => bnd (bnd (ev Φ C a ρ) fun x => bnd (asBl x) fun k => if k then ev Φ C b ρ else pur (D.bl false)) asBl)
        simp only [and_bnd]
        exact this
      exact ⟨e_and (Sa.e o hc).1 q1, hw.pt, fun _ _ _ _ => hw⟩
    split at h2
    · exact key _ _ (e_one (Sb.e o h2).1) (w_and1 (Sb.e o h2).2.1) _ _ _ rfl h1
    · exact key _ _ (Sb.e o h2).1 ((Sb.e o h2).2.2 _ _ _ rfl) _ _ _ rfl h1
  l := fun _ h => by cases h
  o := fun _ h => by cases h
  t := fun _ h => by cases h
  i := fun _ h => by cases h
  p := fun _ h => by cases h
  n := fun _ h => by cases h
theorem snd_or (Sa : Snd T cv Φ C k a) (Sb : Snd T cv Φ C k b) : Snd T cv Φ C k (.or a b) where
  e := fun {X c wx e} o h => by
    unfold chk at h
    split at h <;> first | (cases h; done) | skip
    all_goals (rename_i h1; cases h1)
    obtain ⟨h1, h2⟩ := band h
    have key : ∀ es pos, EvE X cv wx (.BoolOp .Or es pos) (ev Φ C b) → PW X (.BoolOp .Or es pos) (tT X.K cv wx fun ρ => bnd (ev Φ C b ρ) asBl) → ∀ e1 e2 r, es = e2 :: r → chk T a c e1 = true → EvE X cv wx (.BoolOp .Or (e1 :: es) pos) (ev Φ C (.or a b)) ∧ EvT X cv wx (.BoolOp .Or (e1 :: es) pos) (fun ρ => bnd (ev Φ C (.or a b) ρ) asBl) ∧ (∀ op vs pos', (.BoolOp .Or (e1 :: es) pos : Expr) = .BoolOp op vs pos' → PW X (.BoolOp .Or (e1 :: es) pos) (tT X.K cv wx fun ρ => bnd (ev Φ C (.or a b) ρ) asBl)) := by
      intro es pos q1 q2 e1 e2 r he hc
      subst he
      have hw : PW X (.BoolOp .Or (e1 :: e2 :: r) pos) (tT X.K cv wx fun ρ => bnd (ev Φ C (.or a b) ρ) asBl) := by
        have := w_or (Sa.e o hc).2.1 q2
        show PW X (.BoolOp .Or (e1 :: e2 :: r) pos) (tT X.K cv wx fun ρ => bnd (bnd (ev Φ C a ρ) fun x => bnd (asBl x) fun k => if k then pur (D.bl true) else ev Φ C b ρ) asBl)
        simp only [or_bnd]
        exact this
      exact ⟨e_or (Sa.e o hc).1 q1, hw.pt, fun _ _ _ _ => hw⟩
    split at h2
    · exact key _ _ (e_one (Sb.e o h2).1) (w_or1 (Sb.e o h2).2.1) _ _ _ rfl h1
    · exact key _ _ (Sb.e o h2).1 ((Sb.e o h2).2.2 _ _ _ rfl) _ _ _ rfl h1
  l := fun _ h => by cases h
  o := fun _ h => by cases h
  t := fun _ h => by cases h
  i := fun _ h => by cases h
  p := fun _ h => by cases h
  n := fun _ h => by cases h
theorem snd_ite (Sd : Snd T cv Φ C k d) (Sa : Snd T cv Φ C k a) (Sb : Snd T cv Φ C k b) : Snd T cv Φ C k (.ite d a b) where
  e := fun {X c wx e} o h => by
    unfold chk at h
    split at h <;> first | (cases h; done) | skip
    all_goals (rename_i h1; cases h1)
    obtain ⟨h1, h2⟩ := band h
    obtain ⟨h2, h3⟩ := band h2
    have e1 : ev Φ C (.ite d a b) = fun ρ => bnd (bnd (ev Φ C d ρ) asBl) fun k => if k then ev Φ C a ρ else ev Φ C b ρ := by
      funext ρ
      rw [bnd_assoc]
      rfl
    rw [e1]
    refine ⟨e_ite (Sd.e o h1).2.1 (Sa.e o h2).1 (Sb.e o h3).1, ?_, fun _ _ _ q => by cases q⟩
    simp only [ite_bnd]
    exact t_ite (Sd.e o h1).2.1 (Sa.e o h2).2.1 (Sb.e o h3).2.1
  l := fun _ h => by cases h
  o := fun _ h => by cases h
  t := fun _ h => by cases h
  i := fun _ h => by cases h
  p := fun _ h => by cases h
  n := fun _ h => by cases h
theorem snd_cut (Sa : Snd T cv Φ C k a) (Sb : Snd T cv Φ C k b) (Sd : Snd T cv Φ C k d) : Snd T cv Φ C k (.cut a b d) where
  e := fun {X c wx e} o h => by
    unfold chk at h
    split at h <;> first | (cases h; done) | skip
    all_goals (rename_i h1; cases h1)
    obtain ⟨h1, h2⟩ := band h
    obtain ⟨h2, h3⟩ := band h2
    exact t_plain (f := fun ρ => bnd (ev Φ C a ρ) fun x => bnd (evO Φ C b ρ) fun l => bnd (evO Φ C d ρ) fun h => ofO (cutO x l h)) (e_cut (Sa.e o h1).1 (Sb.o o h2) (Sd.o o h3)) (fun _ => rfl) (fun _ _ _ q => by cases q)
  l := fun _ h => by cases h
  o := fun _ h => by cases h
  t := fun _ h => by cases h
  i := fun _ h => by cases h
  p := fun _ h => by cases h
  n := fun _ h => by cases h
theorem snd_call {f : Nat} (Sa : Snd T cv Φ C k a) : Snd T cv Φ C k (.call f a) where
  e := fun {X c wx e} o h => by
    unfold chk at h
    split at h <;> first | (cases h; done) | skip
    all_goals (rename_i h1; cases h1)
    split at h
    · rename_i fd hfd
      obtain ⟨h1, h2⟩ := band h
      obtain rfl := of_decide_eq_true h1
      obtain ⟨h2, h3⟩ := band h2
      obtain ⟨h3, h4⟩ := band h3
      obtain ⟨h4, h5⟩ := band h4
      obtain ⟨h5, h6⟩ := band h5
      obtain ⟨h6, h7⟩ := band h6
      have h6 := of_decide_eq_true h6
      obtain ⟨q1, q2⟩ := Sa.l o h7
      obtain ⟨ad, fdt, ps, g1, g2, g3, g4⟩ := o.fns f fd hfd
      have key : ∀ (es : List Expr) p pos, EvA X cv wx es (evL Φ C a) → (∀ ρ s ds s', evL Φ C a ρ s = some (.ok ds, s') → ds.length = es.length) → (!es.isEmpty) = true → es.all noStar = true → es.length = fd.ps → EvE X cv wx (.Call (.Name fd.nm p) es [] pos) (fun ρ => bnd (evL Φ C a ρ) fun ds => Φ f ds) := by
        intro es p pos q1 q2 h4 h5 h6
        cases es with
        | nil => cases h4
        | cons e0 es =>
          rw [List.all_cons] at h5
          obtain ⟨hs0, hst⟩ := band h5
          exact e_call g4 o.room (gl_of o h2) g1 g2 g3 o.tk q1 (fun ρ s ds s' z => (q2 ρ s ds s' z).trans h6) (by simpa using h3) (star_of hs0) (stars_of hst)
      exact t_plain (f := fun ρ => bnd (evL Φ C a ρ) fun ds => Φ f ds) (key _ _ _ q1 q2 h4 h5 h6) (fun _ => rfl) (fun _ _ _ q => by cases q)
    · cases h
  l := fun _ h => by cases h
  o := fun _ h => by cases h
  t := fun _ h => by cases h
  i := fun _ h => by cases h
  p := fun _ h => by cases h
  n := fun _ h => by cases h
theorem n_comp {tg : List Nat} {X : Cx} {c : Cc} {wx : WX} {tgE itE e1 : Expr} {ifs : List Expr} {scope : Scope} {pos : Pos} (Sd : Snd T cv Φ C k d) (Sa : Snd T cv Φ C k a) (Sb : Snd T cv Φ C k b) (o : XOk T cv Φ C k X c wx)
    (h : chk T (.comp tg d a b) c (.ListComp e1 [⟨tgE, itE, ifs, 0⟩] scope pos) = true) : EvN X cv wx (.ListComp e1 [⟨tgE, itE, ifs, 0⟩] scope pos) (fComp (itr Φ C b) tg (evC Φ C d) (ev Φ C a)) := by
  obtain ⟨h1, h2⟩ := band h
  have hnd := of_decide_eq_true h1
  obtain ⟨h2, h3⟩ := band h2
  obtain ⟨h3, h4⟩ := band h3
  have hlen := of_decide_eq_true h3
  obtain ⟨h4, h5⟩ := band h4
  obtain ⟨h5, h6⟩ := band h5
  obtain ⟨h6, h7⟩ := band h6
  obtain ⟨h7, h8⟩ := band h7
  have hown : ((tgNames tgE).zip tg).map (·.2) = tg := by rw [List.map_snd_zip]; exact Nat.le_of_eq hlen.symm
  refine PE.imp (pe_lc (own := (tgNames tgE).zip tg) o.calm (by rw [o.N]; exact o.nd) (Sb.i o h8) (by rw [o.N, o.sc]; exact blkOk_by h2) (fun s H Ca cl fp => tg_of (o.blk s H scope cl Ca fp) h4) (fun s H Ca cl fp => Sd.t (o.blk s H scope cl Ca fp) h6) (fun s H Ca cl fp => (Sa.e (o.blk s H scope cl Ca fp) h7).1) (fold_of h5)) (comp_read hown hnd)
theorem snd_comp {tg : List Nat} (Sd : Snd T cv Φ C k d) (Sa : Snd T cv Φ C k a) (Sb : Snd T cv Φ C k b) : Snd T cv Φ C k (.comp tg d a b) where
  e := fun {X c wx e} o h => by
    have h0 := h
    unfold chk at h
    split at h <;> first | (cases h; done) | skip
    all_goals (rename_i h1; cases h1)
    have := t_plain (f := fun ρ => bnd (fComp (itr Φ C b) tg (evC Φ C d) (ev Φ C a) ρ) fun ds => pur (.lst ds)) (e_frz (n_comp Sd Sa Sb o h0)) (fun _ => rfl) (fun _ _ _ q => by cases q)
    have e1 : ev Φ C (.comp tg d a b) = fun ρ => bnd (fComp (itr Φ C b) tg (evC Φ C d) (ev Φ C a) ρ) fun ds => pur (.lst ds) := by
      funext ρ
      show _ = bnd (bnd _ _) _
      rw [bnd_assoc]
      rfl
    rw [e1]
    exact this
  l := fun _ h => by cases h
  o := fun _ h => by cases h
  t := fun _ h => by cases h
  i := fun _ h => by cases h
  p := fun _ h => by cases h
  n := fun {X c wx e} o _ h => by
    have h0 := h
    unfold chk at h
    split at h <;> first | (cases h; done) | skip
    all_goals (rename_i h1; cases h1)
    refine ⟨_, n_comp Sd Sa Sb o h0, fun ρ β K => ?_⟩
    show bnd (bnd _ _) _ = bnd (bnd _ _) _
    simp only [bnd_assoc]
    rfl
theorem snd_cel (Sa : Snd T cv Φ C k a) : Snd T cv Φ C k (.cel a) where
  e := fun {X c wx e} o h => by
    have h' : (isNew a && chk T a c e) = true := by
      unfold chk at h
      exact h
    obtain ⟨h1, h2⟩ := band h'
    obtain ⟨fl, g1, g2⟩ := Sa.n o h1 h2
    have e1 : ev Φ C (.cel a) = fun ρ => bnd (fl ρ) celK := by
      funext ρ
      exact g2 ρ _ _
    have hE : EvE X cv wx e (ev Φ C (.cel a)) := by
      rw [e1]; exact e_cel g1
    obtain ⟨hp1, hp2⟩ := cel_form (X := X) h1 h2
    exact t_plain hE hp1 hp2
  l := fun _ h => by cases h
  o := fun _ h => by cases h
  t := fun _ h => by cases h
  i := fun _ h => by cases h
  p := fun _ h => by cases h
  n := fun _ h => by cases h
theorem snd_at0 (Sa : Snd T cv Φ C k a) (Sb : Snd T cv Φ C k b) : Snd T cv Φ C k (.at0 a b) where
  e := fun {X c wx e} o h => by
    unfold chk at h
    split at h <;> first | (cases h; done) | skip
    all_goals (rename_i h1; cases h1)
    obtain ⟨h1, h2⟩ := band h
    obtain ⟨h2, h3⟩ := band h2
    exact t_plain (f := fun ρ => bnd (ev Φ C a ρ) fun x => bnd (ev Φ C b ρ) fun y => atOf x y) (e_at0 o.unit (plain_of h1) (Sa.e o h2).1 (Sb.e o h3).1) (fun _ => rfl) (fun _ _ _ q => by cases q)
  l := fun _ h => by cases h
  o := fun _ h => by cases h
  t := fun _ h => by cases h
  i := fun _ h => by cases h
  p := fun _ h => by cases h
  n := fun _ h => by cases h
theorem snd_dct {ks : List Kd} (Sa : Snd T cv Φ C k a) : Snd T cv Φ C k (.dct ks a) where
  e := fun {X c wx e} o h => by
    unfold chk at h
    split at h <;> first | (cases h; done) | skip
    all_goals (rename_i h1; cases h1)
    · exact t_plain (f := fun ρ => bnd (noE (evL Φ C .nil ρ)) fun ds => if ds.length = ([] : List Kd).length then celD (dMk [] ds) else non) e_dct0 (fun _ => rfl) (fun _ _ _ q => by cases q)
    · obtain ⟨h1, h2⟩ := band h
      obtain ⟨h0, h1⟩ := band h1
      obtain ⟨h2, h3⟩ := band h2
      obtain ⟨h4, h5⟩ := band h2
      obtain ⟨h5, h6⟩ := band h5
      obtain ⟨h6, h7⟩ := band h6
      obtain ⟨trs, g1, g2⟩ := Sa.p (pos := ‹Pos›) o h3
      exact t_plain (f := fun ρ => bnd (noE (evL Φ C a ρ)) fun ds => if ds.length = ks.length then celD (dMk ks ds) else non) (e_dct g1 g2 h7 (of_decide_eq_true h4) (by
        intro z
        rw [z] at h0
        cases h0) (of_decide_eq_true h1) (of_decide_eq_true h5) (List.all_eq_true.mp h6)) (fun _ => rfl) (fun _ _ _ q => by cases q)
  l := fun _ h => by cases h
  o := fun _ h => by cases h
  t := fun _ h => by cases h
  i := fun _ h => by cases h
  p := fun _ h => by cases h
  n := fun _ h => by cases h
theorem base_of {e1 : Expr} {m : Str} {env : PySem.Env} {w : Sem Value} (h : noCallE e1 = true) : attributeBase e1 m env w = w := by
  cases e1 <;> first | rfl | cases h
theorem snd_get2 (Sa : Snd T cv Φ C k a) (Sb : Snd T cv Φ C k b) (Sd : Snd T cv Φ C k d) : Snd T cv Φ C k (.get2 a b d) where
  e := fun {X c wx e} o h => by
    unfold chk at h
    split at h <;> first | (cases h; done) | skip
    all_goals (rename_i h1; cases h1)
    rename_i e1 m apos e2 e3 cpos
    obtain ⟨h0, h1⟩ := band h
    obtain rfl := of_decide_eq_true h0
    obtain ⟨h1, h2⟩ := band h1
    obtain ⟨h2, h3⟩ := band h2
    obtain ⟨h2, h2'⟩ := band h2
    obtain ⟨h3, h4⟩ := band h3
    obtain ⟨h4, h5⟩ := band h4
    obtain ⟨h5, h6⟩ := band h5
    have s1 : starEach [e2, e3] X.env = (false, eval e2 X.env) :: starEach [e3] X.env := star_of h2
    have s2 : starEach [e3] X.env = (false, eval e3 X.env) :: starEach [] X.env := star_of h2'
    exact t_plain (f := fun ρ => bnd (ev Φ C a ρ) fun x => bnd (isDct x) fun _ => bnd (ev Φ C b ρ) fun y => bnd (ev Φ C d ρ) fun z => getOf x y z)
      (e_get2 o.unit ⟨base_of h1, by rw [s1, s2]; rfl, h3, by rw [s1, s2]; rfl⟩ (Sa.e o h4).1 (Sb.e o h5).1 (Sd.e o h6).1) (fun _ => rfl) (fun _ _ _ q => by cases q)
  l := fun _ h => by cases h
  o := fun _ h => by cases h
  t := fun _ h => by cases h
  i := fun _ h => by cases h
  p := fun _ h => by cases h
  n := fun _ h => by cases h
theorem snd_meth {u : Bo} (Sa : Snd T cv Φ C k a) (Sb : Snd T cv Φ C k b) : Snd T cv Φ C k (.meth u a b) where
  e := fun {X c wx e} o h => by
    unfold chk at h
    split at h <;> first | (cases h; done) | skip
    all_goals (rename_i h1; cases h1)
    split at h
    · rename_i s hs
      obtain ⟨h0, h1⟩ := band h
      obtain rfl := of_decide_eq_true h0
      obtain ⟨h1, h2⟩ := band h1
      obtain ⟨h2, h3⟩ := band h2
      obtain ⟨h3, h4⟩ := band h3
      obtain ⟨h4, h5⟩ := band h4
      have s1 := star_of (env := X.env) (es := []) h2
      cases u <;> first | (cases hs; done) | skip
      · cases hs
        exact t_plain (f := fun ρ => bnd (ev Φ C a ρ) fun x => bnd (isStrM x) fun _ => bnd (ev Φ C b ρ) fun y => ofO (bop .join x y)) (e_join s1 (base_of h1) h3 (Sa.e o h4).1 (Sb.e o h5).1) (fun _ => rfl) (fun _ _ _ q => by cases q)
      · cases hs
        exact t_plain (f := fun ρ => bnd (ev Φ C a ρ) fun x => bnd (isStrM x) fun _ => bnd (ev Φ C b ρ) fun y => ofO (bop .split x y)) (e_split s1 (base_of h1) h3 (Sa.e o h4).1 (Sb.e o h5).1) (fun _ => rfl) (fun _ _ _ q => by cases q)
    · cases h
  l := fun _ h => by cases h
  o := fun _ h => by cases h
  t := fun _ h => by cases h
  i := fun _ h => by cases h
  p := fun _ h => by cases h
  n := fun _ h => by cases h
theorem snd_idx {q : Bool} (Sa : Snd T cv Φ C k a) (Sb : Snd T cv Φ C k b) : Snd T cv Φ C k (.idx q a b) where
  e := fun {X c wx e} o h => by
    unfold chk at h
    split at h <;> first | (cases h; done) | skip
    all_goals (rename_i h1; cases h1)
    obtain ⟨h0, h1⟩ := band h
    obtain rfl := of_decide_eq_true h0
    obtain ⟨h1, h2⟩ := band h1
    obtain ⟨h2, h3⟩ := band h2
    obtain ⟨h3, h4⟩ := band h3
    obtain ⟨h4, h5⟩ := band h4
    have s1 : starEach [_] X.env = _ := star_of (env := X.env) (es := []) h2
    cases q with
    | false => exact t_plain (f := fun ρ => bnd (ev Φ C a ρ) fun x => bnd (isSqM false x) fun _ => bnd (ev Φ C b ρ) fun y => ofO (idxO false x y)) (e_idxL (by have := o.room.un; omega) s1 (base_of h1) h3 (Sa.e o h4).1 (Sb.e o h5).1) (fun _ => rfl) (fun _ _ _ q => by cases q)
    | true => exact t_plain (f := fun ρ => bnd (ev Φ C a ρ) fun x => bnd (isSqM true x) fun _ => bnd (ev Φ C b ρ) fun y => ofO (idxO true x y)) (e_idxT s1 (base_of h1) h3 (Sa.e o h4).1 (Sb.e o h5).1) (fun _ => rfl) (fun _ _ _ q => by cases q)
  l := fun _ h => by cases h
  o := fun _ h => by cases h
  t := fun _ h => by cases h
  i := fun _ h => by cases h
  p := fun _ h => by cases h
  n := fun _ h => by cases h
/-- the lambda's own body -/
theorem XOk.lamB {X : Cx} {c : Cc} {wx : WX} (o : XOk T cv Φ C k X c wx) (A : Around) (outer : List PySem.Env) (s : Shared) (H : Hp) (E : XK) (scope : Scope) (f c' : Addr) (hr : Room k (A.deeper (LamX.lamEnv X scope s.heap.objs.size f c'))) : XOk T cv Φ C k (LamX.lamCx X A outer s H E scope f c') (lamTop c scope) (wxE E) where
  N := o.N
  nd := o.nd
  sc := rfl
  calm := rfl
  tk := takes_of rfl rfl rfl rfl
  room := hr
  top := fun h => by cases h
  fns := o.fns
  con := o.con
  blt := o.blt
  exc := o.exc
  thk := o.thk
  lam := fun h => by cases h
theorem hds_of {X : Cx} {c : Cc} {wx : WX} (o : XOk T cv Φ C k X c wx) {sc : Scope} : ∀ {hs : List Hd} {es : List ExceptHandler}, chkHds T sc hs es = true → (∀ y ∈ hs, ∃ d, y.r = .inl d ∧ (∀ W, Rp X.K W d (litV d))) ∧
    (∀ y ∈ hs, (∀ i ∈ y.cs, PySem.W.exmOne X.K (cv i) (cv y.j) = some true) ∧ ∀ i ∈ y.ns, PySem.W.exmOne X.K (cv i) (cv y.j) = some false)
  | [], [], _ => ⟨fun y h => (by cases h), fun y h => (by cases h)⟩
  | [], _ :: _, h => by cases h
  | _ :: _, [], h => by cases h
  | h :: hs, e :: es, hh => by
    obtain ⟨h1, h2⟩ := band (show (chkHd T sc h e && chkHds T sc hs es) = true from hh)
    obtain ⟨r1, r2⟩ := hds_of o h2
    unfold chkHd at h1
    split at h1 <;> first | (cases h1; done) | skip
    split at h1 <;> first | (cases h1; done) | skip
    rename_i x np q jj p p' pos' _ d hd
    obtain ⟨h1, h3⟩ := band h1
    obtain ⟨g1, h1⟩ := band h1
    obtain ⟨g2, g3⟩ := band h1
    obtain ⟨h3, h4⟩ := band h3
    obtain ⟨g4, g5⟩ := band h3
    obtain ⟨g6, g7⟩ := band h4
    have g2 := of_decide_eq_true g2
    have hj : h.j < T.exc.length := by
      cases he : T.exc[h.j]? with
      | none => rw [he] at g2; cases g2
      | some ed => exact (List.getElem?_eq_some_iff.mp he).1
    refine ⟨fun y hy => ?_, fun y hy => ?_⟩
    · rcases List.mem_cons.mp hy with rfl | hy
      · exact ⟨d, hd, (lit_ofV (X := X) (j := jj) (pos := p) g5).2.1⟩
      · exact r1 y hy
    · rcases List.mem_cons.mp hy with rfl | hy
      · refine ⟨fun i hi => ?_, fun i hi => ?_⟩
        · obtain ⟨q1, q2⟩ := band (List.all_eq_true.mp g6 i hi)
          rw [o.exc.mt i _ (of_decide_eq_true q1) hj, q2]
        · obtain ⟨q1, q2⟩ := band (List.all_eq_true.mp g7 i hi)
          rw [o.exc.mt i _ (of_decide_eq_true q1) hj]
          cases hm : T.mt i y.j with
          | false => rfl
          | true => rw [hm] at q2; cases q2
      · exact r2 y hy
theorem th_last {X : Cx} {h : Th} {a : Str} {sg : Scope} {bg : List Stmt} (hc : chkTh T h a sg bg = true) : (∃ es, chkHds T sg h.hs es = true) ∧ (h.ret = false → ∀ W, Rp X.K W h.last (litV h.last)) := by
  unfold chkTh at hc
  split at hc <;> first | (cases hc; done) | skip
  · obtain ⟨h1, h2⟩ := band hc
    obtain ⟨h2, h3⟩ := band h2
    obtain ⟨h2, h4⟩ := band h2
    exact ⟨⟨_, h4⟩, fun _ => (lit_ofV (X := X) (j := 0) (pos := default) h3).2.1⟩
  · obtain ⟨h1, h2⟩ := band hc
    obtain ⟨h1, hb⟩ := band h1
    obtain ⟨h2, h4⟩ := band h2
    exact ⟨⟨_, h4⟩, fun z => by rw [h1] at z; cases z⟩
theorem snd_lam {h : Th} (Sa : Snd T cv Φ C k a) : Snd T cv Φ C k (.lam h a) where
  e := fun {X c wx e} o hq => by
    unfold chk at hq
    split at hq <;> first | (cases hq; done) | skip
    all_goals (rename_i h1; cases h1)
    rename_i x px params body scope lpos pos
    obtain ⟨h0, h1⟩ := band hq
    obtain ⟨h0, h2⟩ := band h0
    obtain ⟨h0, hne⟩ := band h0
    obtain ⟨h1, h3⟩ := band h1
    obtain ⟨h4, h5⟩ := band h1
    obtain ⟨h5, h6⟩ := band h5
    obtain ⟨h3, h7⟩ := band h3
    obtain ⟨h3, h8⟩ := band h3
    obtain rfl := of_decide_eq_true h4
    obtain ⟨h', hmem, heq⟩ := List.any_eq_true.mp h2
    obtain rfl := thEq_eq heq
    have A := o.thk _ hmem
    obtain ⟨g, oc, od, an, osl, pg, bg, sg, dV, kV, doc, pm, cdv, ct, b, Ng, _, _, _, _, _, _, _, _, _, _, a11⟩ := id A.ex
    obtain ⟨⟨es, hes⟩, hl⟩ := th_last (X := X) a11
    obtain ⟨q1, q2⟩ := hds_of o hes
    exact t_plain (f := fun ρ => lamF h (ev Φ C a ρ)) (e_lam o.exc A (o.lam h0) (gl_of o h5) (by simpa using h6) (LamX.lamS_by (by rw [o.sc]; exact h8)) h3 q1 q2 hl hne fun A' outer s H E f' c' hr => (Sa.e (o.lamB A' outer s H E scope f' c' hr) h7).1) (fun _ => rfl) (fun _ _ _ q => by cases q)
  l := fun _ h => by cases h
  o := fun _ h => by cases h
  t := fun _ h => by cases h
  i := fun _ h => by cases h
  p := fun _ h => by cases h
  n := fun _ h => by cases h
theorem snd_val (Sa : Snd T cv Φ C k a) : Snd T cv Φ C k (.val a) where
  e := fun _ h => by cases h
  l := fun _ h => by cases h
  o := fun {X c wx eo} o h => by
    cases eo with
    | none => cases h
    | some e => exact o_some (Sa.e o h).1
  t := fun {X c wx ifs} o h => by
    match ifs, h with
    | [e], h => exact pts_one (Sa.e o h).2.1
  i := fun {X c wx tg e} o h => i_val (Sa.e o h).1
  p := fun _ h => by cases h
  n := fun _ h => by cases h
theorem snd_rng1 (Sa : Snd T cv Φ C k a) : Snd T cv Φ C k (.rng1 a) where
  e := fun _ h => by cases h
  l := fun _ h => by cases h
  o := fun _ h => by cases h
  t := fun _ h => by cases h
  i := fun {X c wx tg e} o h => by
    unfold chkI at h
    split at h <;> first | (cases h; done) | skip
    all_goals (rename_i h1; cases h1)
    obtain ⟨h1, h2⟩ := band h
    obtain ⟨h2, h3⟩ := band h2
    obtain ⟨rfl, g, m, _, _⟩ := blt_of o h1
    exact i_rng1 g m (star_of h2) (Sa.e o h3).1
  p := fun _ h => by cases h
  n := fun _ h => by cases h
theorem snd_rng2 (Sa : Snd T cv Φ C k a) (Sb : Snd T cv Φ C k b) : Snd T cv Φ C k (.rng2 a b) where
  e := fun _ h => by cases h
  l := fun _ h => by cases h
  o := fun _ h => by cases h
  t := fun _ h => by cases h
  i := fun {X c wx tg e} o h => by
    unfold chkI at h
    split at h <;> first | (cases h; done) | skip
    all_goals (rename_i h1; cases h1)
    obtain ⟨h1, h2⟩ := band h
    obtain ⟨h2, h3⟩ := band h2
    obtain ⟨h2, h2'⟩ := band h2
    obtain ⟨h3, h4⟩ := band h3
    obtain ⟨rfl, g, m, _, _⟩ := blt_of o h1
    exact i_rng2 g m (star_of h2) (star_of h2') (Sa.e o h3).1 (Sb.e o h4).1
  p := fun _ h => by cases h
  n := fun _ h => by cases h
theorem snd_zip (Sa : Snd T cv Φ C k a) (Sb : Snd T cv Φ C k b) : Snd T cv Φ C k (.zip a b) where
  e := fun _ h => by cases h
  l := fun _ h => by cases h
  o := fun _ h => by cases h
  t := fun _ h => by cases h
  i := fun {X c wx tg e} o h => by
    unfold chkI at h
    split at h <;> first | (cases h; done) | skip
    all_goals (rename_i h1; cases h1)
    obtain ⟨h0, h1⟩ := band h
    obtain ⟨h1, h2⟩ := band h1
    obtain ⟨h2, h3⟩ := band h2
    obtain ⟨h2, h2'⟩ := band h2
    obtain ⟨h3, h4⟩ := band h3
    obtain ⟨rfl, g, m, _, _⟩ := blt_of o h1
    cases tg <;> first | (cases h0; done) | skip
    exact i_zip g m (star_of h2) (star_of h2') (Sa.e o h3).1 (Sb.e o h4).1
  p := fun _ h => by cases h
  n := fun _ h => by cases h
theorem snd_enu (Sa : Snd T cv Φ C k a) : Snd T cv Φ C k (.enu a) where
  e := fun _ h => by cases h
  l := fun _ h => by cases h
  o := fun _ h => by cases h
  t := fun _ h => by cases h
  i := fun {X c wx tg e} o h => by
    unfold chkI at h
    split at h <;> first | (cases h; done) | skip
    all_goals (rename_i h1; cases h1)
    obtain ⟨h0, h1⟩ := band h
    obtain ⟨h1, h2⟩ := band h1
    obtain ⟨h2, h3⟩ := band h2
    obtain ⟨rfl, g, m, _, _⟩ := blt_of o h1
    cases tg <;> first | (cases h0; done) | skip
    exact i_enu g m (star_of h2) (Sa.e o h3).1
  p := fun _ h => by cases h
  n := fun _ h => by cases h
theorem snd_nil : Snd T cv Φ C k .nil where
  e := fun _ h => by cases h
  l := fun {X c wx es} o h => by
    match es, h with
    | [], _ => exact ⟨a_nil, fun ρ s ds s' h => by cases h; rfl⟩
  o := fun {X c wx eo} o h => by
    match eo, h with
    | none, _ => exact o_none
  t := fun {X c wx ifs} o h => by
    match ifs, h with
    | [], _ => exact t_yes
  i := fun _ h => by cases h
  p := fun {X c wx ks keys vals pos} o h => by
    match ks, keys, vals, h with
    | [], [], [], _ =>
      refine ⟨[], pps_nil, fun σ H Q ⟨ρ, s, W0, W, e, at_, h⟩ => ?_⟩
      subst e
      exact h W Nxt.refl at_.st [] .nil
  n := fun _ h => by cases h
theorem snd_cons (Sa : Snd T cv Φ C k a) (Sr : Snd T cv Φ C k r) : Snd T cv Φ C k (.cons a r) where
  e := fun _ h => by cases h
  l := fun {X c wx es} o h => by
    match es, h with
    | e :: es, h =>
      obtain ⟨h1, h2⟩ := band (show (noStar e && (chk T a c e && chkL T r c es)) = true from h)
      obtain ⟨h2, h3⟩ := band h2
      obtain ⟨q1, q2⟩ := Sr.l o h3
      refine ⟨a_cons (star_of h1) (Sa.e o h2).1 q1, fun ρ s ds s' h => ?_⟩
      obtain ⟨x, s1, _, h⟩ := bnd_inv (show bnd (ev Φ C a ρ) (fun x => bnd (asOk x) fun y => bnd (evL Φ C r ρ) fun ys => pur (y :: ys)) s = some (.ok ds, s') from h)
      obtain ⟨y, s2, _, h⟩ := bnd_inv h
      obtain ⟨ys, s3, h4, h⟩ := bnd_inv h
      cases h
      simp [q2 ρ _ _ _ h4]
  o := fun _ h => by cases h
  t := fun _ h => by cases h
  i := fun _ h => by cases h
  p := fun {X c wx ks keys vals pos} o h => by
    unfold chkP at h
    split at h <;> first | (cases h; done) | skip
    all_goals (rename_i h1; cases h1)
    rename_i k ks q j p' keys v vals
    obtain ⟨h1, h2⟩ := band h
    obtain ⟨h2, h3⟩ := band h2
    obtain ⟨trs, g1, g2⟩ := Sr.p o h3
    have hk : PE X (.Constant q j p') (tC (kV (toK k))) := by
      cases k with
      | inl i =>
        cases q with
        | int i' =>
          have e : i = i' := of_decide_eq_true h1
          subst e
          exact pe_int
        | _ => cases h1
      | inr s =>
        cases q with
        | str t =>
          have e : S s = t := of_decide_eq_true h1
          subst e
          exact pe_str
        | _ => cases h1
    refine ⟨_, pps_cons hk (Sa.e o h2).1 g1, fun σ H Q ⟨ρ, s, W0, W, e, at_, h⟩ => ?_⟩
    show tE X.K cv wx (ev Φ C a) σ H fun y H2 => tPairs trs σ H2 fun ps H3 => Q ((kV (toK k), y) :: ps) H3
    have h : Aft X.K cv W σ wx (bnd (ev Φ C a ρ) (fun x => bnd (asOk x) fun y => bnd (evL Φ C r ρ) fun ys => pur (y :: ys)) s) fun ds W' _ => ∀ vs, RpL X.K W' ds vs → Q (((k :: ks).map fun k => kV (toK k)).zip vs) W'.H := h
    refine ⟨ρ, s, W0, W, e, at_, h.bnd.mono fun x W1 s1 n1 st1 h1 w rw' => ?_⟩
    obtain ⟨ok, h2⟩ := asOk_inv h1.bnd
    have h3 := h2 W1 Nxt.refl st1
    refine g2 _ _ _ ⟨ρ, s1, W0, W1, rfl, at_.next n1 st1, h3.bnd.mono fun ys W2 s2 n2 st2 h4 vs r => ?_⟩
    exact h4 W2 Nxt.refl st2 (w :: vs) (.cons ok (n2.rp st1.inF rw') r)
  n := fun _ h => by cases h
theorem snd_all : ∀ x : Ex, Snd T cv Φ C k x
  | .nil => snd_nil
  | .cons a r => snd_cons (snd_all a) (snd_all r)
  | .var _ => snd_var
  | .lit _ => snd_lit
  | .con _ => snd_con
  | .tup l => snd_tup (snd_all l)
  | .lst l => snd_lst (snd_all l)
  | .un _ a => snd_un (snd_all a)
  | .bi _ a b => snd_bi (snd_all a) (snd_all b)
  | .ch _ _ a b d => snd_ch (snd_all a) (snd_all b) (snd_all d)
  | .not a => snd_not (snd_all a)
  | .and a b => snd_and (snd_all a) (snd_all b)
  | .or a b => snd_or (snd_all a) (snd_all b)
  | .ite d a b => snd_ite (snd_all d) (snd_all a) (snd_all b)
  | .cut a b d => snd_cut (snd_all a) (snd_all b) (snd_all d)
  | .call _ a => snd_call (snd_all a)
  | .comp _ d a b => snd_comp (snd_all d) (snd_all a) (snd_all b)
  | .val a => snd_val (snd_all a)
  | .rng1 a => snd_rng1 (snd_all a)
  | .rng2 a b => snd_rng2 (snd_all a) (snd_all b)
  | .zip a b => snd_zip (snd_all a) (snd_all b)
  | .enu a => snd_enu (snd_all a)
  | .cel a => snd_cel (snd_all a)
  | .at0 a b => snd_at0 (snd_all a) (snd_all b)
  | .dct _ a => snd_dct (snd_all a)
  | .get2 a b d => snd_get2 (snd_all a) (snd_all b) (snd_all d)
  | .meth _ a b => snd_meth (snd_all a) (snd_all b)
  | .idx _ a b => snd_idx (snd_all a) (snd_all b)
  | .lam _ a => snd_lam (snd_all a)
end
end Ev

namespace Ev
open PySem PySem.Spec PyProof.Rows L2
open SX (S S_cat S_len S_inj S_tl)
def isStarB : Expr → Bool
  | .Starred .. => true
  | _ => false
def locN (ko : Str → Option NameKind) (line : Nat) : Expr → Option Str
  | .Name id pos => if ko id == some .local && pos.line == line then some id else none
  | _ => none
def lineN (ts : List Expr) : Nat := (ts.head?.map (·.pos.line)).getD 0
/-- what Python makes of a, b = .. -/
def swO (sc : Scope) (ts vs : List Expr) : Option (Option (List Str)) :=
  if !(ts.length == 2 || ts.length == 3) || vs.length != ts.length then some none
  else if vs.any isStarB then some none
  else if (ts.filterMap (locN (fun y => sc.names.lookup y) (lineN ts))).length != ts.length || (ts.filterMap (locN (fun y => sc.names.lookup y) (lineN ts))).eraseDups.length != (ts.filterMap (locN (fun y => sc.names.lookup y) (lineN ts))).length then some none
  else if vs.all (foldedForSure 8) then some none
  else if vs.all (constantsAlone 8) then none
  else some (some (ts.filterMap (locN (fun y => sc.names.lookup y) (lineN ts))))
def noTup : Expr → Bool
  | .Tuple _ _ _ => false
  | _ => true
def unpB (c : Cc) (ts : List Expr) (v : Expr) : Bool := match v with
  | .Tuple vs _ _ => decide (swO c.sc ts vs = some none)
  | v => noComp v
def isCo : Ex → Bool
  | .comp _ _ _ _ => true
  | _ => false
section
variable (T : Tb)
mutual
def chkS (x : Sx) (c : Cc) (st : Stmt) : Bool := match x, st with
  | .skip, .Pass _ => true
  | .skip, .Expr (.Constant (.str _) _ _) _ => true
  | .set i e, .Assign [.Name x _] v _ => isLoc c i x && ((noComp v || decide (isCo e = true)) && chk T e c v)
  | .own i e, .Assign [.Name x _] v _ => isLoc c i x && ((noComp v || decide (isCo e = true)) && (isNew e && chk T e c v))
  | .unp is e, .Assign [.Tuple es _ _] v _ => namesB c is es && (unpB c es v && chk T e c v)
  | .par [i, j] l, .Assign [.Tuple [.Name x px, .Name y py] _ _] (.Tuple [a, b] _ _) _ =>
      isLoc c i x && (isLoc c j y && (decide (i ≠ j) && (decide (swO c.sc [.Name x px, .Name y py] [a, b] = some (some [x, y])) && chkL T l c [a, b])))
  | .par [i, j, k] l, .Assign [.Tuple [.Name x px, .Name y py, .Name z pz] _ _] (.Tuple [a, b, d] _ _) _ =>
      isLoc c i x && (isLoc c j y && (isLoc c k z && ((decide (i ≠ j) && (decide (i ≠ k) && decide (j ≠ k))) && (decide (swO c.sc [.Name x px, .Name y py, .Name z pz] [a, b, d] = some (some [x, y, z])) && chkL T l c [a, b, d]))))
  | .paro i j both l m, .Assign [.Tuple [.Name x px, .Name y py] _ _] (.Tuple [a, b] _ _) _ =>
      (isLoc c i x && (isLoc c j y && (decide (i ≠ j) && decide (swO c.sc [.Name x px, .Name y py] [a, b] = some (some [x, y]))))) && (((noStar a && noStar b) && (isNew l && (!both || isNew m))) && (chk T l c a && chk T m c b))
  | .app i e, .Expr (.Call (.Attribute (.Name x _) m apos) [e1] [] cpos) _ => decide (m = "append") && (isVar c i x && (noStar e1 && ((apos.endLine == cpos.line) && chk T e c e1)))
  | .bad, _ => true
  | .put a j e, .Assign [.Subscript e1 e2 _] v _ => (noCallE e1 && noSlice e2) && (noComp v && (chk T a c e1 && (chk T j c e2 && chk T e c v)))
  | .ret e, .Return (some v) _ => chk T e c v
  | .drop e, .Expr v _ => noComp v && chk T e c v
  | .rse k, .Raise (some (.Call (.Name x _) [.Constant (.str _) _ _] [] _)) none _ => isGl c.sc x && ((match T.exc[k]? with
      | some e => decide (e.nm = x) && e.own.isNone
      | none => false) && !(x == ("__debug__" : Str)))
  | .try_ (.drop e) hs, .Try [.Expr v _] hds [] [] _ => c.top && ((!hds.isEmpty && chkHds T c.sc hs hds) && (noComp v && chk T e c v))
  | .try_ (.ret e) hs, .Try [.Return (some v) _] hds [] [] _ => c.top && ((!hds.isEmpty && chkHds T c.sc hs hds) && chk T e c v)
  | .ite e t f, .If v th el _ => chk T e c v && (chkB t c th && chkB f c el)
  | .for_ tg it b, .For tgE itE body [] _ => tgB c tg tgE && (noSet itE && (chkI T it c tgE itE && chkB b c body))
  | .whl _ e b, .While v body [] _ => chk T e c v && chkB b c body
  | _, _ => false
def chkB (x : Sx) (c : Cc) (sts : List Stmt) : Bool := match x, sts with
  | .nil, [] => true
  | .cons (.frz _) r, sts => chkB r c sts
  | .cons s r, st :: sts => chkS s c st && chkB r c sts
  | _, _ => false
end
end
end Ev

namespace Ev
open PySem PySem.Spec PyProof.Rows L2
open SX (S S_cat S_len S_inj S_tl)
structure SOk (T : Tb) (cv : Nat → Value) (Φ : Fun) (C : Nat → Option D) (k : Nat) (X : Cx) (c : Cc) (wx : WX) : Prop extends XOk T cv Φ C k X c wx where
  kind : c.sc.kind = .function
  free : Free wx
  pass : PassesOwn (model X.prog X.w) X.A X.env X.xe
  stk : c.top = true → X.stack = X.env :: X.outer ∧ X.env.frame = some X.env.locals
section
variable {T : Tb} {cv : Nat → Value} {Φ : Fun} {C : Nat → Option D} {k : Nat} {X : Cx} {c : Cc} {wx : WX}
theorem SOk.fnk (o : SOk T cv Φ C k X c wx) : X.env.scope.kind = .function := by rw [o.sc]; exact o.kind
theorem sw_no {v : Expr} {t : Option Expr} {l : Nat} {env : PySem.Env} (h : noComp v = true) : swapsWith v t l env = pure false := by
  cases v <;> first | rfl | cases h
theorem sw_tup {v : Expr} {es : List Expr} {j : Nat} {p : Pos} {l : Nat} {env : PySem.Env} : swapsWith v (some (.Tuple es j p)) l env = pure false := by
  cases v <;> rfl
theorem sw_lc {elt : Expr} {gs : List Comprehension} {scope : Scope} {pos py : Pos} {y : Str} {l : Nat} {env : PySem.Env} (hk : env.scope.kind = .function) :
    swapsWith (.ListComp elt gs scope pos) (some (.Name y py)) l env = pure (((env.scope.names.lookup y == some .local) && (py.line == pos.line)) && !(scope.names.any fun (n, k) => n == y && (k == .local || k == .cell))) := by
  have hb : env.blockKind = .function := by unfold PySem.Env.blockKind; rw [hk]; rfl
  unfold swapsWith
  simp only [hb]
  rfl
theorem asg_comp (o : SOk T cv Φ C k X c wx) {i : Nat} {x : Str} {px pos : Pos} {tg : List Nat} {d a b : Ex} {v : Expr} (hl : isLoc c i x = true) (h : chk T (.comp tg d a b) c v = true) :
    PS X (.Assign [.Name x px] v pos) (tAsg (tN X.K cv wx (fComp (itr Φ C b) tg (evC Φ C d) (ev Φ C a))) (gName i)) := by
  have h0 := h
  unfold chk at h
  split at h <;> first | (cases h; done) | skip
  all_goals (rename_i h1; cases h1)
  rename_i e1 tgE itE ifs scope p
  obtain ⟨l1, l2, l3⟩ := loc_of o.toXOk hl
  obtain ⟨h1, h2⟩ := band h
  have hnd := of_decide_eq_true h1
  obtain ⟨h2, h3⟩ := band h2
  obtain ⟨h3, h4⟩ := band h3
  have hlen := of_decide_eq_true h3
  obtain ⟨h4, h5⟩ := band h4
  obtain ⟨h5, h6⟩ := band h5
  obtain ⟨h6, h7⟩ := band h6
  obtain ⟨h7, h8⟩ := band h7
  cases hb : (((X.env.scope.names.lookup x == some .local) && (px.line == p.line)) && !(scope.names.any fun (n, k) => n == x && (k == .local || k == .cell))) with
  | false =>
    exact ps_set (by rw [o.N]; exact o.nd) l1 l2 (n_comp (snd_all d) (snd_all a) (snd_all b) o.toXOk h0) (by rw [sw_lc o.fnk]; exact congrArg pure hb) l3
  | true =>
    obtain ⟨hb1, _⟩ := band (band hb).1
    have hown : ((tgNames tgE).zip tg).map (·.2) = tg := by rw [List.map_snd_zip]; exact Nat.le_of_eq hlen.symm
    refine PS.imp (ps_setLc (own := (tgNames tgE).zip tg) o.calm (by rw [o.N]; exact o.nd) l1 (by simpa using hb1) (by rw [sw_lc o.fnk]; exact congrArg pure hb) ((snd_all b).i o.toXOk h8) (by rw [o.N, o.sc]; exact blkOk_by h2) (fun s H Ca cl fp => tg_of (o.toXOk.blk s H scope cl Ca fp) h4) (fun s H Ca cl fp => (snd_all d).t (o.toXOk.blk s H scope cl Ca fp) h6) (fun s H Ca cl fp => ((snd_all a).e (o.toXOk.blk s H scope cl Ca fp) h7).1) (fold_of h5)) fun σ H D q => comp_read hown hnd σ H _ q
theorem ev_comp {tg : List Nat} {d a b : Ex} (ρ : Env) : ev Φ C (.comp tg d a b) ρ = bnd (fComp (itr Φ C b) tg (evC Φ C d) (ev Φ C a) ρ) fun ds => pur (.lst ds) := by
  show _ = bnd (bnd _ _) _
  rw [bnd_assoc]
  rfl
theorem asg_new (o : SOk T cv Φ C k X c wx) {i : Nat} {x : Str} {px pos : Pos} {e : Ex} {v : Expr} (hl : isLoc c i x = true) (hn : isNew e = true) (hc : (noComp v || decide (isCo e = true)) = true) (h : chk T e c v = true) :
    ∃ fl, PS X (.Assign [.Name x px] v pos) (tAsg (tN X.K cv wx fl) (gName i)) ∧ ∀ (ρ : Env) (β : Type) (K : List D → M β), bnd (ev Φ C e ρ) (lstK K) = bnd (fl ρ) K := by
  cases hv : noComp v with
  | true =>
    obtain ⟨fl, g1, g2⟩ := (snd_all (Φ := Φ) (C := C) (cv := cv) (k := k) e).n o.toXOk hn h
    obtain ⟨l1, l2, l3⟩ := loc_of o.toXOk hl
    exact ⟨fl, ps_set (by rw [o.N]; exact o.nd) l1 l2 g1 (sw_no hv) l3, g2⟩
  | false =>
    rw [hv] at hc
    cases e <;> first | (cases hc; done) | skip
    exact ⟨_, asg_comp o hl h, fun ρ β K => by rw [ev_comp]; exact lstK_pur _ _⟩
theorem sw_eq {env : PySem.Env} {ts vs : List Expr} {j j2 : Nat} {p p2 : Pos} : swappedStores [.Tuple ts j p] (.Tuple vs j2 p2) env = (
  if (!(ts.length == 2 || ts.length == 3) || vs.length != ts.length || env.blockKind != .function) = true then pure none
  else if vs.any isStarB = true then pure none
  else if ((ts.filterMap (locN env.kindOf (lineN ts))).length != ts.length || (ts.filterMap (locN env.kindOf (lineN ts))).eraseDups.length != (ts.filterMap (locN env.kindOf (lineN ts))).length) = true then pure none
  else if vs.all (foldedForSure 8) = true then pure none
  else if vs.all (constantsAlone 8) = true then (do unsupported "assign.tuple-of-constant-expressions:order-of-the-stores"; pure (some (ts.filterMap (locN env.kindOf (lineN ts)))))
  else pure (some (ts.filterMap (locN env.kindOf (lineN ts))))) := rfl
theorem sw_pair (hk : X.env.scope.kind = .function) (hs : X.env.scope = c.sc) {ts vs : List Expr} {j j2 : Nat} {p p2 : Pos} {r : Option (List Str)} (h : swO c.sc ts vs = some r) : swappedStores [.Tuple ts j p] (.Tuple vs j2 p2) X.env = pure r := by
  have hb : X.env.blockKind = .function := by unfold PySem.Env.blockKind; rw [hk]; rfl
  have hq : X.env.kindOf = fun y => c.sc.names.lookup y := by funext y; unfold PySem.Env.kindOf; rw [hs]
  rw [sw_eq, hb, hq]
  unfold swO at h
  have h0 : (ScopeKind.function != ScopeKind.function) = false := rfl
  rw [h0, Bool.or_false]
  by_cases h1 : (!(ts.length == 2 || ts.length == 3) || vs.length != ts.length) = true
  · rw [if_pos h1] at h ⊢; cases h; rfl
  rw [if_neg h1] at h ⊢
  by_cases h2 : vs.any isStarB = true
  · rw [if_pos h2] at h ⊢; cases h; rfl
  rw [if_neg h2] at h ⊢
  split at h
  · rename_i h3; rw [if_pos h3]; cases h; rfl
  rename_i h3
  rw [if_neg h3]
  by_cases h4 : vs.all (foldedForSure 8) = true
  · rw [if_pos h4] at h ⊢; cases h; rfl
  rw [if_neg h4] at h ⊢
  by_cases h5 : vs.all (constantsAlone 8) = true
  · rw [if_pos h5] at h; cases h
  rw [if_neg h5] at h ⊢
  cases h; rfl
end
end Ev

namespace Ev
open PySem PySem.Spec PyProof.Rows L2
open SX (S S_cat S_len S_inj S_tl)
section
variable {T : Tb} {cv : Nat → Value} {Φ : Fun} {C : Nat → Option D} {k : Nat} {X : Cx} {c : Cc} {wx : WX}
structure SndS (T : Tb) (cv : Nat → Value) (Φ : Fun) (C : Nat → Option D) (k : Nat) (x : Sx) : Prop where
  s : ∀ {X c wx st}, SOk T cv Φ C k X c wx → chkS T x c st = true → EvS X cv wx st (exS Φ C x)
  b : ∀ {X c wx sts}, SOk T cv Φ C k X c wx → chkB T x c sts = true → EvB X cv wx sts (exS Φ C x)
theorem ok_pur {β : Type} (l : List D) (K : D → M β) : bnd (asOk (.lst l)) K = K (.lst l) := rfl
theorem sd_skip : SndS T cv Φ C k .skip where
  s := fun {X c wx st} o h => by
    unfold chkS at h
    split at h <;> first | (cases h; done) | skip
    all_goals (rename_i h1; cases h1)
    · exact s_skip ps_pass
    · exact s_skip ps_doc
  b := fun _ h => by cases h
theorem sd_set {i : Nat} {e : Ex} : SndS T cv Φ C k (.set i e) where
  s := fun {X c wx st} o h => by
    unfold chkS at h
    split at h <;> first | (cases h; done) | skip
    all_goals (rename_i h1; cases h1)
    rename_i x p v pos
    obtain ⟨h1, h2⟩ := band h
    obtain ⟨h2, h3⟩ := band h2
    cases hv : noComp v with
    | true =>
      obtain ⟨l1, l2, l3⟩ := loc_of o.toXOk h1
      exact s_set (by rw [o.N]; exact o.nd) l1 l2 ((snd_all e).e o.toXOk h3).1 (sw_no hv) l3
    | false =>
      rw [hv] at h2
      cases e <;> first | (cases h2; done) | skip
      rename_i tg d a b _
      have := s_setN (asg_comp (px := p) (pos := pos) o h1 h3)
      have e1 : exS Φ C (.set i (.comp tg d a b)) = fun ρ => bnd (fComp (itr Φ C b) tg (evC Φ C d) (ev Φ C a) ρ) fun ds => pur (.nx (ρ.set i (some (.lst ds)))) := by
        funext ρ
        show bnd (ev Φ C (.comp tg d a b) ρ) _ = _
        rw [ev_comp, bnd_assoc]
        rfl
      rw [e1]
      exact this
  b := fun _ h => by cases h
theorem sd_own {i : Nat} {e : Ex} : SndS T cv Φ C k (.own i e) where
  s := fun {X c wx st} o h => by
    unfold chkS at h
    split at h <;> first | (cases h; done) | skip
    all_goals (rename_i h1; cases h1)
    rename_i x p v pos
    obtain ⟨h1, h2⟩ := band h
    obtain ⟨h2, h3⟩ := band h2
    obtain ⟨h3, h4⟩ := band h3
    obtain ⟨fl, g1, g2⟩ := asg_new (px := p) (pos := pos) o h1 h3 h2 h4
    have := s_own g1
    have e1 : exS Φ C (.own i e) = fun ρ => bnd (fl ρ) fun ds => pur (.nx (ρ.set i (some (.own ds)))) := by
      funext ρ
      exact g2 ρ _ _
    rw [e1]
    exact this
  b := fun _ h => by cases h
theorem sw_tup' {v : Expr} {es : List Expr} {j : Nat} {p : Pos} {l : Nat} {env : PySem.Env} : swapsWithSole [.Tuple es j p] v l env = pure false := by
  show swapsWith v (some (.Tuple es j p)) l env = pure false
  exact sw_tup
theorem sd_unp {is : List Nat} {e : Ex} : SndS T cv Φ C k (.unp is e) where
  s := fun {X c wx st} o h => by
    unfold chkS at h
    split at h <;> first | (cases h; done) | skip
    all_goals (rename_i h1; cases h1)
    rename_i es j p v pos
    obtain ⟨h1, h2⟩ := band h
    obtain ⟨h2, h3⟩ := band h2
    obtain ⟨a, b, d⟩ := namesOf o.toXOk h1
    have hw : swappedStores [.Tuple es j p] v X.env = pure none := by
      cases v <;> first | rfl | (cases h2; done) | exact sw_pair o.fnk o.sc (of_decide_eq_true h2)
    exact s_unp (e := v) (ps_asg ((snd_all e).e o.toXOk h3).1 (pg_tup o.calm a b d) sw_tup' hw)
  b := fun _ h => by cases h
theorem noSw {v : Expr} {env : PySem.Env} {l : Nat} {t : Expr} (h : noComp v = true) : swapsWithSole [t] v l env = pure false := sw_no h
theorem fm_all {α β : Type} (f : α → Option β) : ∀ (l : List α), (l.filterMap f).length = l.length → ∀ a ∈ l, f a ≠ none
  | [], _, a, h => by cases h
  | b :: l, h, a, ha => by
    have hle : (l.filterMap f).length ≤ l.length := List.length_filterMap_le f l
    rw [List.filterMap_cons] at h
    cases hb : f b with
    | none =>
      rw [hb] at h
      have h : (l.filterMap f).length = l.length + 1 := h
      omega
    | some x =>
      rw [hb] at h
      have h : (l.filterMap f).length + 1 = l.length + 1 := h
      rcases List.mem_cons.mp ha with e | e
      · rw [e, hb]; exact fun z => by cases z
      · exact fm_all f l (by omega) a e
theorem locM (o : SOk T cv Φ C k X c wx) {ts vs : List Expr} {r : List Str} (h : swO c.sc ts vs = some (some r)) {x : Str} {px : Pos} (hx : (.Name x px : Expr) ∈ ts) : X.env.scope.names.lookup x = some .local := by
  rw [o.sc]
  unfold swO at h
  split at h
  · cases h
  split at h
  · cases h
  split at h
  · cases h
  rename_i h1
  have h2 : (ts.filterMap (locN (fun y => c.sc.names.lookup y) (lineN ts))).length = ts.length := by
    rw [Bool.or_eq_true, not_or] at h1
    exact Classical.byContradiction fun z => h1.1 (by simpa using z)
  have h3 := fm_all _ _ h2 _ hx
  by_cases hx : c.sc.names.lookup x = some .local
  · exact hx
  · exfalso; apply h3
    have : (c.sc.names.lookup x == some NameKind.local) = false := by simpa using hx
    simp only [locN, this, Bool.false_and, Bool.false_eq_true, if_false]
theorem sd_par {is : List Nat} {l : Ex} : SndS T cv Φ C k (.par is l) where
  s := fun {X c wx st} o h => by
    unfold chkS at h
    split at h <;> first | (cases h; done) | skip
    all_goals (rename_i h1; cases h1)
    · obtain ⟨h1, h2⟩ := band h
      obtain ⟨h2, h3⟩ := band h2
      obtain ⟨h3, h4⟩ := band h3
      obtain ⟨h4, h5⟩ := band h4
      have h3 := of_decide_eq_true h3
      have h4 := of_decide_eq_true h4
      have q1 := locM o h4 (List.mem_cons_self ..)
      have q2 := locM o h4 (List.mem_cons_of_mem _ (List.mem_cons_self ..))
      exact s_par2 (ps_par o.calm (by rw [o.N]; exact o.nd) (loc_of o.toXOk h1).1 (loc_of o.toXOk h2).1 h3 q1 q2 ((snd_all l).l o.toXOk h5).1 (sw_pair o.fnk o.sc h4) sw_tup')
    · obtain ⟨h1, h2⟩ := band h
      obtain ⟨h2, h3⟩ := band h2
      obtain ⟨h3, h4⟩ := band h3
      obtain ⟨h4, h5⟩ := band h4
      obtain ⟨h5, h6⟩ := band h5
      obtain ⟨n1, n2⟩ := band h4
      obtain ⟨n2, n3⟩ := band n2
      have n1 := of_decide_eq_true n1
      have n2 := of_decide_eq_true n2
      have n3 := of_decide_eq_true n3
      have h5 := of_decide_eq_true h5
      have q1 := locM o h5 (List.mem_cons_self ..)
      have q2 := locM o h5 (List.mem_cons_of_mem _ (List.mem_cons_self ..))
      have q3 := locM o h5 (List.mem_cons_of_mem _ (List.mem_cons_of_mem _ (List.mem_cons_self ..)))
      exact s_par3 (ps_par3 o.calm (by rw [o.N]; exact o.nd) (loc_of o.toXOk h1).1 (loc_of o.toXOk h2).1 (loc_of o.toXOk h3).1 n1 n2 n3 q1 q2 q3 ((snd_all l).l o.toXOk h6).1 (sw_pair o.fnk o.sc h5) sw_tup')
  b := fun _ h => by cases h
theorem sd_paro {i j : Nat} {both : Bool} {l m : Ex} : SndS T cv Φ C k (.paro i j both l m) where
  s := fun {X c wx st} o h => by
    unfold chkS at h
    split at h <;> first | (cases h; done) | skip
    all_goals (rename_i h1; cases h1)
    obtain ⟨h1, h2⟩ := band h
    obtain ⟨h1, h3⟩ := band h1
    obtain ⟨h3, h4⟩ := band h3
    obtain ⟨h4, h5⟩ := band h4
    obtain ⟨h2, h6⟩ := band h2
    obtain ⟨h2, h7⟩ := band h2
    obtain ⟨h7, h8⟩ := band h7
    obtain ⟨s1, s2⟩ := band h2
    obtain ⟨h6, h9⟩ := band h6
    have h4 := of_decide_eq_true h4
    have h5 := of_decide_eq_true h5
    have q1 := locM o h5 (List.mem_cons_self ..)
    have q2 := locM o h5 (List.mem_cons_of_mem _ (List.mem_cons_self ..))
    obtain ⟨fl, g1, g2⟩ := (snd_all (Φ := Φ) (C := C) (cv := cv) (k := k) l).n o.toXOk h7 h6
    cases both with
    | false =>
      have e1 : exS Φ C (.paro i j false l m) = fun ρ => bnd (fl ρ) fun ds => bnd (ev Φ C m ρ) fun x => bnd (asOk x) fun y => pur (.nx ((ρ.set i (some (.own ds))).set j (some y))) := by
        funext ρ
        exact g2 ρ _ _
      rw [e1]
      exact s_paroF h4 (ps_par o.calm (by rw [o.N]; exact o.nd) (loc_of o.toXOk h1).1 (loc_of o.toXOk h3).1 h4 q1 q2 (pa_cons g1 (pa_cons ((snd_all m).e o.toXOk h9).1 pa_nil (star_of s2)) (star_of s1)) (sw_pair o.fnk o.sc h5) sw_tup')
    | true =>
      obtain ⟨gl, k1, k2⟩ := (snd_all (Φ := Φ) (C := C) (cv := cv) (k := k) m).n o.toXOk (by simpa using h8) h9
      have e1 : exS Φ C (.paro i j true l m) = fun ρ => bnd (fl ρ) fun ds => bnd (gl ρ) fun es => pur (.nx ((ρ.set i (some (.own ds))).set j (some (.own es)))) := by
        funext ρ
        have e2 : exS Φ C (.paro i j true l m) ρ = bnd (fl ρ) fun ds => bnd (ev Φ C m ρ) fun x => bnd (lstK (fun l => pur (.own l)) x) fun y => pur (.nx ((ρ.set i (some (.own ds))).set j (some y))) := g2 ρ _ _
        rw [e2]
        congr 1
        funext ds
        refine Eq.trans ?_ (k2 ρ _ fun es => pur (Fl.nx ((ρ.set i (some (D.own ds))).set j (some (D.own es)))))
        congr 1
        funext x
        cases x <;> rfl
      rw [e1]
      exact s_paroT h4 (ps_par o.calm (by rw [o.N]; exact o.nd) (loc_of o.toXOk h1).1 (loc_of o.toXOk h3).1 h4 q1 q2 (pa_cons g1 (pa_cons k1 pa_nil (star_of s2)) (star_of s1)) (sw_pair o.fnk o.sc h5) sw_tup')
  b := fun _ h => by cases h
theorem sd_app {i : Nat} {e : Ex} : SndS T cv Φ C k (.app i e) where
  s := fun {X c wx st} o h => by
    unfold chkS at h
    split at h <;> first | (cases h; done) | skip
    all_goals (rename_i h1; cases h1)
    obtain ⟨h0, h1⟩ := band h
    obtain rfl := of_decide_eq_true h0
    obtain ⟨h1, h2⟩ := band h1
    obtain ⟨h2, h3⟩ := band h2
    obtain ⟨h3, h4⟩ := band h3
    obtain ⟨v1, v2, v3, v4⟩ := var_of o.toXOk h1
    have he := ((snd_all (Φ := Φ) (C := C) (cv := cv) (k := k) e).e o.toXOk h4).1
    have st := star_of (env := X.env) (es := []) h2
    refine s_app (p1 := default) (p2 := default) (pos2 := default) v1 v2 v3 v4 he (ps_expr (pe_bm PySem.F.plainAttrs_list PySem.F.slot_list_append PySem.F.type_list_append mt_append (pe_var v1 v2 v3 v4) (pa_cons he pa_nil st) (by rfl) ?_ h3 st))
    rw [st]; rfl
  b := fun _ h => by cases h
theorem sd_put {a j e : Ex} : SndS T cv Φ C k (.put a j e) where
  s := fun {X c wx st} o h => by
    unfold chkS at h
    split at h <;> first | (cases h; done) | skip
    all_goals (rename_i h1; cases h1)
    rename_i e1 e2 ps v pos
    obtain ⟨h1, h2⟩ := band h
    obtain ⟨h0, h1⟩ := band h1
    obtain ⟨h2, h3⟩ := band h2
    obtain ⟨h3, h4⟩ := band h3
    obtain ⟨h4, h5⟩ := band h4
    have hq := ((snd_all (Φ := Φ) (C := C) (cv := cv) (k := k) a).e o.toXOk h3).1
    have he := ((snd_all (Φ := Φ) (C := C) (cv := cv) (k := k) e).e o.toXOk h5).1
    have hj := ((snd_all (Φ := Φ) (C := C) (cv := cv) (k := k) j).e o.toXOk h4).1
    have ha : ∀ w, assign (.Subscript e1 e2 ps) X.env w = (do
      let ov ← holding [w] (eval e1 X.env)
      let iv ← holding [w, ov] (eval e2 X.env)
      standAt ps
      holding [w, ov, iv] (setItem ov iv w)
      release [w, ov, iv] []) := by
      intro w
      cases e2 <;> first | rfl | (cases h1; done)
    have hw : swappedStores [.Subscript e1 e2 ps] v X.env = pure none := by
      cases v <;> rfl
    have h1' : (assignEach [.Subscript e1 e2 ps] X.env).map (·.2) = [assign (.Subscript e1 e2 ps) X.env] := by rfl
    exact s_put (o := v) (j := v) (ps_asg he (pg_sub hq hj (set_u o.unit) ha) (noSw h2) hw h1')
  b := fun _ h => by cases h
theorem sd_bad : SndS T cv Φ C k .bad where
  s := fun {X c wx st} o h => ⟨fun pins s σ H D I ⟨ρ, s', W0, W, e, at_, q⟩ => False.elim q⟩
  b := fun _ h => by cases h
theorem sd_ret {e : Ex} : SndS T cv Φ C k (.ret e) where
  s := fun {X c wx st} o h => by
    unfold chkS at h
    split at h <;> first | (cases h; done) | skip
    all_goals (rename_i h1; cases h1)
    exact s_ret ((snd_all e).e o.toXOk h).1
  b := fun _ h => by cases h
theorem sd_drop {e : Ex} : SndS T cv Φ C k (.drop e) where
  s := fun {X c wx st} o h => by
    unfold chkS at h
    split at h <;> first | (cases h; done) | skip
    all_goals (rename_i h1; cases h1)
    obtain ⟨h1, h2⟩ := band h
    exact s_drop ((snd_all e).e o.toXOk h2).1 (sw_no h1)
  b := fun _ h => by cases h
theorem bl_bnd2 {β : Type} (m : M D) (K : Bool → M β) : bnd (bnd m asBl) K = bnd m fun x => bnd (asBl x) K := bnd_assoc _ _ _
theorem sd_ite {e : Ex} {a b : Sx} (Sa : SndS T cv Φ C k a) (Sb : SndS T cv Φ C k b) : SndS T cv Φ C k (.ite e a b) where
  s := fun {X c wx st} o h => by
    unfold chkS at h
    split at h <;> first | (cases h; done) | skip
    all_goals (rename_i h1; cases h1)
    obtain ⟨h1, h2⟩ := band h
    obtain ⟨h2, h3⟩ := band h2
    have e1 : exS Φ C (.ite e a b) = fun ρ => bnd (bnd (ev Φ C e ρ) asBl) fun k => if k then exS Φ C a ρ else exS Φ C b ρ := by
      funext ρ
      rw [bl_bnd2]
      rfl
    rw [e1]
    exact s_ite ((snd_all e).e o.toXOk h1).2.1 (Sa.b o h2) (Sb.b o h3)
  b := fun _ h => by cases h
theorem sd_for {tg : List Nat} {e : Ex} {b : Sx} (Sb : SndS T cv Φ C k b) : SndS T cv Φ C k (.for_ tg e b) where
  s := fun {X c wx st} o h => by
    unfold chkS at h
    split at h <;> first | (cases h; done) | skip
    all_goals (rename_i h1; cases h1)
    obtain ⟨h1, h2⟩ := band h
    obtain ⟨h2, h3⟩ := band h2
    obtain ⟨h3, h4⟩ := band h3
    exact s_for o.free o.pass o.calm ((snd_all e).i o.toXOk h3) (tg_of o.toXOk h1) (Sb.b o h4) (fold_of h2)
  b := fun _ h => by cases h
theorem sd_whl {n : Nat} {e : Ex} {b : Sx} (Sb : SndS T cv Φ C k b) : SndS T cv Φ C k (.whl n e b) where
  s := fun {X c wx st} o h => by
    unfold chkS at h
    split at h <;> first | (cases h; done) | skip
    all_goals (rename_i h1; cases h1)
    obtain ⟨h1, h2⟩ := band h
    exact s_whl o.free o.pass ((snd_all e).e o.toXOk h1).2.1 (Sb.b o h2)
  b := fun _ h => by cases h
theorem XOk.tr (o : XOk T cv Φ C k X c wx) (W : WX) (pn : List (Addr × Obj)) (xe : Value → Shared → Prop) (t : Takes (X.tr pn xe) W) : XOk T cv Φ C k (X.tr pn xe) c W where
  N := o.N
  nd := o.nd
  sc := o.sc
  calm := o.calm
  tk := t
  room := o.room
  top := o.top
  fns := o.fns
  con := o.con
  blt := o.blt
  exc := o.exc
  thk := o.thk
  lam := fun h => ⟨(o.lam h).room, (o.lam h).code⟩
theorem sd_rse {j : Nat} : SndS T cv Φ C k (.rse j) where
  s := fun {X c wx st} o h => by
    unfold chkS at h
    split at h <;> first | (cases h; done) | skip
    all_goals (rename_i h1; cases h1)
    obtain ⟨h1, h2⟩ := band h
    obtain ⟨h2, h3⟩ := band h2
    split at h2 <;> first | (cases h2; done) | skip
    rename_i e he
    obtain ⟨h2, h4⟩ := band h2
    obtain rfl := of_decide_eq_true h2
    obtain ⟨Ca, g1, g2, g3, g4, g5, g6⟩ := o.exc.at_ _ _ he
    have hown : e.own = none := by simpa using h4
    exact s_rse o.calm o.tk (pmk_own PySem.F.excBase_ValueError (g6 hown) g2 g3 (raises_own g4 g5) (gl_of o.toXOk h1) (by simpa using h3)) g1
  b := fun _ h => by cases h
theorem sd_rsf {j : Nat} {f : Str} {e : Ex} : SndS T cv Φ C k (.rsf j f e) where
  s := fun _ h => by cases h
  b := fun _ h => by cases h
theorem sd_try {b : Sx} {hs : List Hd} : SndS T cv Φ C k (.try_ b hs) where
  s := fun {X c wx st} o h => by
    unfold chkS at h
    split at h <;> first | (cases h; done) | skip
    all_goals (rename_i h1; cases h1)
    · rename_i e v p hds pos
      obtain ⟨h0, h1⟩ := band h
      obtain ⟨h1, h2⟩ := band h1
      obtain ⟨h1, h3⟩ := band h1
      obtain ⟨h2, h4⟩ := band h2
      obtain ⟨k1, k2⟩ := hd_ok o.exc o.sc h3
      cases hds with
      | nil => cases h1
      | cons h₀ hds =>
        obtain ⟨s1, s2⟩ := o.stk h0
        exact s_try (g := exS Φ C (.drop e)) s1 s2 o.tk (fun W pn xe t => s_drop ((snd_all e).e (o.toXOk.tr W pn xe t) h4).1 (sw_no h2)) k1 k2
    · rename_i e v p hds pos
      obtain ⟨h0, h1⟩ := band h
      obtain ⟨h1, h2⟩ := band h1
      obtain ⟨h1, h3⟩ := band h1
      obtain ⟨k1, k2⟩ := hd_ok o.exc o.sc h3
      cases hds with
      | nil => cases h1
      | cons h₀ hds =>
        obtain ⟨s1, s2⟩ := o.stk h0
        exact s_try (g := exS Φ C (.ret e)) s1 s2 o.tk (fun W pn xe t => s_ret ((snd_all e).e (o.toXOk.tr W pn xe t) h2).1) k1 k2
  b := fun _ h => by cases h
theorem sd_frz {i : Nat} : SndS T cv Φ C k (.frz i) where
  s := fun _ h => by cases h
  b := fun _ h => by cases h
theorem sd_nil : SndS T cv Φ C k .nil where
  s := fun _ h => by cases h
  b := fun {X c wx sts} o h => by
    match sts, h with
    | [], _ => exact b_nil
theorem frz_seq {g : Env → M Fl} {i : Nat} (ρ : Env) : (bnd (frzK (fun ρ' => pur (.nx ρ')) i ρ (slot ρ i)) fun x => (match x with
    | .nx ρ' => g ρ'
    | .ret d => pur (.ret d))) = frzK g i ρ (slot ρ i) := by
  cases h : slot ρ i with
  | none => rfl
  | some d => cases d <;> rfl
theorem sd_cons {s r : Sx} (Ss : SndS T cv Φ C k s) (Sr : SndS T cv Φ C k r) : SndS T cv Φ C k (.cons s r) where
  s := fun _ h => by cases h
  b := fun {X c wx sts} o h => by
    unfold chkB at h
    split at h <;> first | (cases h; done) | skip
    · rename_i h1; cases h1
    · rename_i h1
      cases h1
      have e1 : ∀ i, exS Φ C (.cons (.frz i) r) = fun ρ => frzK (exS Φ C r) i ρ (slot ρ i) := fun i => by
        funext ρ
        exact frz_seq ρ
      rw [e1]
      exact b_frz (Sr.b o h)
    · rename_i h1
      cases h1
      obtain ⟨h1, h2⟩ := band h
      exact b_cons o.free (Ss.s o h1) (Sr.b o h2)
theorem sds_all : ∀ x : Sx, SndS T cv Φ C k x
  | .nil => sd_nil
  | .cons s r => sd_cons (sds_all s) (sds_all r)
  | .skip => sd_skip
  | .set _ _ => sd_set
  | .own _ _ => sd_own
  | .frz _ => sd_frz
  | .unp _ _ => sd_unp
  | .par _ _ => sd_par
  | .app _ _ => sd_app
  | .paro _ _ _ _ _ => sd_paro
  | .put _ _ _ => sd_put
  | .bad => sd_bad
  | .rse _ => sd_rse
  | .rsf _ _ _ => sd_rsf
  | .try_ _ _ => sd_try
  | .ret _ => sd_ret
  | .drop _ => sd_drop
  | .ite _ a b => sd_ite (sds_all a) (sds_all b)
  | .for_ _ _ b => sd_for (sds_all b)
  | .whl _ _ b => sd_whl (sds_all b)
end
end Ev

namespace Ev
open PySem PySem.Spec PyProof.Rows L2
open SX (S S_cat S_len S_inj S_tl)
theorem lookup_mem' {α β : Type} [BEq α] : ∀ {l : List (α × β)} {a : α} {b : β}, l.lookup a = some b → ∃ k, (k, b) ∈ l
  | [], _, _, h => by cases h
  | (k, v) :: l, a, b, h => by
    rw [List.lookup_cons] at h
    split at h
    · cases h; exact ⟨k, List.mem_cons_self ..⟩
    · obtain ⟨k', hk⟩ := lookup_mem' h
      exact ⟨k', List.mem_cons_of_mem _ hk⟩
/-- the code objects with their tables -/
def tabsC (K : PySem.W.Frag) : List (Addr × Addr) := K.filterMap fun p => match p.2.data with
  | .func fd => tabAt K fd.code
  | _ => none
/-- the def at f has a table that may grow -/
def lamB (K : PySem.W.Frag) (f : Addr) : Bool := match K.lookup f with
  | some ⟨_, _, .func fd, _⟩ => (tabAt K fd.code).isSome
  | _ => false
/-- what is known of a def of the table -/
structure FnAt (T : Tb) (K : PySem.W.Frag) (mg : Str → Option Value) (fd : Fd) (f : Addr) (fdt : FuncData) (ps : List Str) : Prop where
  mg : mg fd.nm = some (.ref f)
  bd : Binds K fdt ps []
  len : ps.length = fd.ps
  fun_ : ∃ qual params body scope, FunD K fd.nm qual params body scope [] [] f fdt ∧ FnScope fd.N ps scope ∧ chkB T fd.body ⟨fd.N, scope, true, fd.lam⟩ body = true
  lam : fd.lam = true → lamB K f = true
section
variable {T : Tb} {P : Program} {w : World} {K : PySem.W.Frag} {mg : Str → Option Value} {base : Heap} {cv : Nat → Value} {C : Nat → Option D}
theorem lam_at {f : Addr} {qual : Str} {cdv : Value} (hT : ∀ p ∈ tabsC K, LamX.TabB base mg p.1 p.2) (hl : lamB K f = true) (hk : ∃ (o : Obj) (fdat : FuncData), K.lookup f = some o ∧ o.data = .func fdat ∧ fdat.code = cdv ∧ fdat.qualname = qual) :
    ∃ (c P : Addr) (i : Nat), cdv = .ref c ∧ LamX.TabB base mg c P ∧ (tabsOf K)[i]? = some (P, lamQ qual) := by
  obtain ⟨o, fdat, h1, h2, h3, h4⟩ := hk
  obtain ⟨oc, od, dt, osl⟩ := o
  simp only at h2
  subst h2 h3 h4
  unfold lamB at hl
  rw [h1] at hl
  obtain ⟨k, hmem⟩ := lookup_mem' h1
  cases ht : tabAt K fdat.code with
  | none => simp only [ht] at hl; cases hl
  | some z =>
    obtain ⟨c, P⟩ := z
    have hc : fdat.code = .ref c := by
      unfold tabAt at ht
      split at ht <;> first | (cases ht; done) | skip
      rename_i c' hc'
      split at ht <;> first | (cases ht; done) | skip
      split at ht <;> first | (cases ht; done) | skip
      split at ht <;> first | (cases ht; done) | skip
      cases ht
      exact hc'
    have m1 : (c, P) ∈ tabsC K := List.mem_filterMap.mpr ⟨_, hmem, ht⟩
    have m2 : (P, lamQ fdat.qualname) ∈ tabsOf K := List.mem_filterMap.mpr ⟨_, hmem, by show (tabAt K fdat.code).map _ = _; rw [ht]; rfl⟩
    obtain ⟨i, hi⟩ := List.getElem?_of_mem m2
    exact ⟨c, P, i, hc, hT _ m1, hi⟩
theorem tab_ok (hf : ∀ (i : Nat) fd, T.fns[i]? = some fd → ∃ f fdt ps, FnAt T K mg fd f fdt ps)
    (hc : ∀ (g : Nat) d, C g = some d → ∃ x u v, (T.cons[g]?).map (·.1) = some x ∧ mg x = some u ∧ RelV v u ∧ ∀ W, Rp K W d v)
    (hb : ∀ x ∈ T.blt, mg x = none) (hX : ExF T K mg cv) (hTh : ∀ h ∈ T.thk, ThAt T K mg h) (hT : ∀ p ∈ tabsC K, LamX.TabB base mg p.1 p.2) :
    ∀ (k : Nat) (i : Nat) fd, T.fns[i]? = some fd → ∀ f fdt ps, FnAt T K mg fd f fdt ps → FnOk P w K mg base (L2.CX P w) (3 * k) f fdt ps (spF K cv (runF T.fns C k i) fd.ps)
  | 0, i, fd, _, f, fdt, ps, _ => by
    have no : ∀ vs H Q E, spF K cv (runF T.fns C 0 i) fd.ps vs H Q E → False := fun vs H Q E h => by
      obtain ⟨_, ds, s, W, _, _, _, q⟩ := h
      exact q
    exact ⟨fun vs H Q E h => (no vs H Q E h).elim, fun A outer s H args us vs Q E _ _ _ _ h => (no vs H Q E h).elim⟩
  | k + 1, i, fd, hi, f, fdt, ps, F => by
    obtain ⟨qual, params, body, scope, FD, FS, hch⟩ := F.fun_
    have key := fn_ok (P := P) (w := w) (mg := mg) (base := base) (cv := cv) (k := 3 * k + 2) (g := exS (runF T.fns C k) C fd.body) FD FS fun cdv hcdv A outer s H E hr => by
      refine (sds_all (T := T) (k := 3 * k) fd.body).b (c := ⟨fd.N, scope, true, fd.lam⟩) ⟨⟨rfl, FS.nd, rfl, rfl, takes_of rfl rfl rfl rfl, hr.mono (by omega), fun _ _ => rfl, fun j fd' hj => ?_, hc, hb, hX, hTh, fun hl => ⟨hr, lam_at hT (F.lam hl) hcdv⟩⟩, FS.kind, fun _ _ _ _ _ h => h, passes_of rfl, fun _ => ⟨rfl, rfl⟩⟩ hch
      obtain ⟨f', fdt', ps', F'⟩ := hf j fd' hj
      obtain ⟨_, _, _, _, FD', _, _⟩ := F'.fun_
      exact ⟨f', fdt', ps', F'.mg, FD'.kp, F'.bd, tab_ok hf hc hb hX hTh hT k j fd' hj f' fdt' ps' F'⟩
    have e : spF K cv (runF T.fns C (k + 1) i) fd.ps = spF K cv (bodyF (exS (runF T.fns C k) C fd.body) fd.N.length) ps.length := by
      funext vs H Q E
      apply propext
      rw [F.len]
      unfold spF
      refine and_congr_right fun hl => exists_congr fun ds => exists_congr fun s => exists_congr fun W => and_congr_right fun _ => and_congr_right fun _ => and_congr_right fun r => ?_
      have hd : ds.length = fd.ps := r.length.trans hl
      have : runF T.fns C (k + 1) i ds = bodyF (exS (runF T.fns C k) C fd.body) fd.N.length ds := by
        show (match T.fns[i]? with | some fd => _ | none => _) = _
        rw [hi]
        show (if ds.length = fd.ps then _ else _) = _
        rw [if_pos hd]
        rfl
      rw [this]
    rw [e]
    exact key
end
end Ev

namespace Ev
open PySem PySem.Spec PyProof.Rows L2
open SX (S S_cat S_len S_inj S_tl)
mutual
def conB (K : PySem.W.Frag) (d : D) (v : Value) : Bool := match d, v with
  | .non, .none => true
  | .bl a, .bool b => a == b
  | .int i, .int j _ => decide (i = j)
  | .str s, .str t _ => decide (S s = t) && (s.all (· < 0x110000) && decide (s.length ≤ lim))
  | .tup ds, .ref a => (match K.lookup a with
    | some ⟨.type c, none, .seq its _, _⟩ => decide (c = "tuple") && (decide (its.size ≤ sizeLine) && conLB K ds its.toList)
    | _ => false)
  | _, _ => false
def conLB (K : PySem.W.Frag) (ds : List D) (vs : List Value) : Bool := match ds, vs with
  | [], [] => true
  | d :: ds, v :: vs => d.ok && (conB K d v && conLB K ds vs)
  | _, _ => false
end
theorem vals_len : ∀ {vs : List V} {us : List Value}, Vals vs us → vs.length = us.length
  | _, _, .nil => rfl
  | _, _, .cons _ r => congrArg (· + 1) (vals_len r)
mutual
theorem con_ok {K : PySem.W.Frag} : ∀ {d : D} {v : Value}, conB K d v = true → ∃ u, RelV u v ∧ ∀ W, Rp K W d u
  | .non, v, h => by
    unfold conB at h
    split at h <;> first | (cases h; done) | skip
    all_goals (rename_i h1; cases h1)
    exact ⟨.non, rfl, fun _ => .non⟩
  | .bl a, v, h => by
    unfold conB at h
    split at h <;> first | (cases h; done) | skip
    all_goals (rename_i h1; cases h1)
    have e := eq_of_beq h
    subst e
    exact ⟨.bl a, rfl, fun _ => .bl a⟩
  | .int i, v, h => by
    unfold conB at h
    split at h <;> first | (cases h; done) | skip
    all_goals (rename_i h1; cases h1)
    have e := of_decide_eq_true h
    exact ⟨.int i, ⟨_, by rw [e]⟩, fun _ => .int i⟩
  | .str s, v, h => by
    unfold conB at h
    split at h <;> first | (cases h; done) | skip
    all_goals (rename_i h1; cases h1)
    obtain ⟨h1, h2⟩ := band h
    obtain ⟨h2, h3⟩ := band h2
    have e := of_decide_eq_true h1
    exact ⟨.str (S s), ⟨_, by rw [e]⟩, fun _ => .str s h2 (of_decide_eq_true h3)⟩
  | .tup ds, v, h => by
    unfold conB at h
    split at h <;> first | (cases h; done) | skip
    all_goals (rename_i h1; cases h1)
    rename_i a
    split at h
    · rename_i c its n osl hq
      obtain ⟨h1, h2⟩ := band h
      obtain ⟨h2, h3⟩ := band h2
      obtain ⟨us, r1, r2⟩ := conL_ok h3
      have hz := of_decide_eq_true h2
      refine ⟨.ref a, rfl, fun W => .tup (.inr ⟨_, its, n, rfl, hq, congrArg Value.type (of_decide_eq_true h1), rfl, hz, r1⟩) ?_ (r2 W)⟩
      rw [(r2 W).length, vals_len r1, lim_eq]
      exact hz
    · cases h
  | .lst _, v, h => by unfold conB at h; cases h
  | .own _, v, h => by unfold conB at h; cases h
  | .ref _, v, h => by unfold conB at h; cases h
  | .pr _ _, v, h => by unfold conB at h; cases h
theorem conL_ok {K : PySem.W.Frag} : ∀ {ds : List D} {vs : List Value}, conLB K ds vs = true → ∃ us, Vals us vs ∧ ∀ W, RpL K W ds us
  | [], [], _ => ⟨[], .nil, fun _ => .nil⟩
  | d :: ds, v :: vs, h => by
    obtain ⟨h1, h2⟩ := band (show (d.ok && (conB K d v && conLB K ds vs)) = true from by unfold conLB at h; exact h)
    obtain ⟨h2, h3⟩ := band h2
    obtain ⟨u, r1, r2⟩ := con_ok h2
    obtain ⟨us, r3, r4⟩ := conL_ok h3
    exact ⟨u :: us, .cons r1 r3, fun W => .cons h1 (r2 W) (r4 W)⟩
  | [], _ :: _, h => by unfold conLB at h; cases h
  | _ :: _, [], h => by unfold conLB at h; cases h
end
def noLB (K : PySem.W.Frag) : Bool := K.all fun p => match p.2.cls with
  | .type c => !(c == "list")
  | _ => true
def ckE (T : Tb) (K : PySem.W.Frag) : Bool := (T.exc.all fun e => (He.Fa.glo e.nm).ok K && ((PySem.W.keepIn K (.ref (He.ga K e.nm)) && (decide (PySem.W.subIn K (.ref (He.ga K e.nm)) (.type "BaseException") = some true) && decide (PySem.W.typeIn K (.ref (He.ga K e.nm)) = some (.type "type")))) &&
    (e.own.isSome || PySem.W.excIn K (He.ga K e.nm) He.veBase "ValueError.__new__"))) &&
  ((List.range T.exc.length).all fun i => (List.range T.exc.length).all fun j => match T.exc[i]?, T.exc[j]? with
    | some a, some b => decide (PySem.W.exmOne K (.ref (He.ga K a.nm)) (.ref (He.ga K b.nm)) = some (T.mt i j))
    | _, _ => false)
def ckL (T : Tb) (K : PySem.W.Frag) : Bool := ((T.fns.all fun fd => !fd.lam || lamB K (He.ga K fd.nm)) && T.thk.all fun h => (He.Fa.glo h.nm).ok K) && ((tabsC K).all (fun p => PySem.W.codeHdIn K p.1 p.2) && decide (((tabsC K).map (·.2)).Nodup))
def ckT (T : Tb) (K : PySem.W.Frag) : Bool := ((T.fns.all fun fd => (He.Fa.glo fd.nm).ok K) && ((T.blt.all fun x => (He.Fa.free x).ok K) && ((T.cons.all fun p => match PySem.W.nsIn K mainGlobals p.1 with
  | some (some v) => conB K p.2 v
  | _ => false) && noLB K))) && (ckE T K && ckL T K)
def isTab0 : Option Obj → Bool
  | some ⟨.none, none, .fields vs, sl⟩ => decide (vs.size = 0) && decide (sl.size = 0)
  | _ => false
theorem isTab0_eq {o : Option Obj} (h : isTab0 o = true) : o = some (PySem.W.tabObj #[]) := by
  unfold isTab0 at h
  split at h <;> first | (cases h; done) | skip
  rename_i vs sl
  obtain ⟨h1, h2⟩ := band h
  have e1 := Array.eq_empty_of_size_eq_zero (of_decide_eq_true h1)
  have e2 := Array.eq_empty_of_size_eq_zero (of_decide_eq_true h2)
  subst e1 e2
  rfl
def ckG (K : PySem.W.Frag) (g : Addr → Option Obj) : Bool := (tabsC K).all fun p => isTab0 (g p.2)
abbrev AlX : Type := Bool × He.AlD
def obsX (T : Tb) (fn : List He.DefD) (K : PySem.W.Frag) (b : Bool) : AlX := (ckT T K && b, He.obsD [] fn K)
def valX (fn : List He.DefD) : AlX := (true, He.valD fn)
def SaysX (T : Tb) (fn : List He.DefD) (K : PySem.W.Frag) : Prop := obsX T fn K true = valX fn
/-- the tables that may grow are left out -/
def lamP (T : Tb) (K : PySem.W.Frag) : List Addr := T.fns.filterMap fun fd => if fd.lam then (PySem.W.tabIn K fd.nm).map (·.2) else none
def fragX (n : Nat) (T : Tb) (g : Addr → Option Obj) : PySem.W.Frag := He.frG g ((He.asD g n).filter fun a => !(lamP T (He.frG g (He.asD g n))).contains a)
def obsXG (n : Nat) (T : Tb) (fn : List He.DefD) (g : Addr → Option Obj) : AlX := obsX T fn (fragX n T g) (ckG (fragX n T g) g)
theorem fragX_in {n : Nat} {T : Tb} {h : Heap} : (fragX n T h.get?).In h := He.frG_in
def hookX (n : Nat) (T : Tb) (fn : List He.DefD) : PySem.W.Hook where
  α := AlX
  obs := fun s => obsXG n T fn s.heap.get?
  val := fun _ => valX fn
  says := fun _ h => ∃ K : PySem.W.Frag, K.In h ∧ SaysX T fn K ∧ ∀ p ∈ tabsC K, h.get? p.2 = some (PySem.W.tabObj #[])
  of := fun _ s e => by
    have e1 : (ckT T (fragX n T s.heap.get?) && ckG (fragX n T s.heap.get?) s.heap.get?) = true := congrArg (fun z : AlX => z.1) e
    have e2 := congrArg (fun z : AlX => z.2) e
    obtain ⟨h1, h2⟩ := band e1
    refine ⟨fragX n T s.heap.get?, fragX_in, ?_, fun p hp => isTab0_eq (List.all_eq_true.mp h2 p hp)⟩
    show (ckT T _ && true, He.obsD [] fn _) = valX fn
    rw [h1]
    exact Prod.ext rfl e2
  keeps := fun _ _ _ ⟨K, hK, c, t⟩ k => ⟨K, PySem.W.Frag.In.keeps hK k, c, fun p hp => k _ _ (t p hp)⟩
theorem obsXG_eq {n : Nat} {T : Tb} {fn : List He.DefD} {g : Addr → Option Obj} {s : Shared} (h : ∀ a, g a = s.heap.get? a) : obsXG n T fn g = (hookX n T fn).obs s := by
  have e : g = s.heap.get? := funext h
  rw [e] <;> rfl
section
variable {T : Tb} {fn : List He.DefD} {K : PySem.W.Frag} {h : Heap} {mg : Str → Option Value}
theorem SaysX.d (c : SaysX T fn K) : He.SaysD [] fn K := congrArg (fun z : AlX => z.2) c
theorem SaysX.t0 (c : SaysX T fn K) : ckT T K = true := by
  have := congrArg (fun z : AlX => z.1) c
  have this : (ckT T K && true) = true := this
  rw [Bool.and_true] at this
  exact this
theorem SaysX.t (c : SaysX T fn K) : ((T.fns.all fun fd => (He.Fa.glo fd.nm).ok K) && ((T.blt.all fun x => (He.Fa.free x).ok K) && ((T.cons.all fun p => match PySem.W.nsIn K mainGlobals p.1 with
  | some (some v) => conB K p.2 v
  | _ => false) && noLB K))) = true := (band c.t0).1
def cvOf (T : Tb) (K : PySem.W.Frag) (j : Nat) : Value := match T.exc[j]? with
  | some e => .ref (He.ga K e.nm)
  | none => .none
theorem SaysX.exc (c : SaysX T fn K) (X : K.In h) (G : h.Ns mainGlobals mg) : ExF T K mg (cvOf T K) := by
  obtain ⟨h1, h2⟩ := band (band (band c.t0).2).1
  refine ⟨fun j e he => ?_, fun i j hi hj => ?_⟩
  · have q := List.all_eq_true.mp h1 e (List.mem_of_getElem? he)
    obtain ⟨q1, q2⟩ := band q
    obtain ⟨q2, q3⟩ := band q2
    obtain ⟨q2, q4⟩ := band q2
    obtain ⟨q4, q5⟩ := band q4
    refine ⟨He.ga K e.nm, ?_, He.glo_ok X G q1, q2, of_decide_eq_true q4, of_decide_eq_true q5, fun hn => ?_⟩
    · unfold cvOf
      rw [he]
    · rw [hn] at q3
      simpa using q3
  · have q := List.all_eq_true.mp (List.all_eq_true.mp h2 i (List.mem_range.mpr hi)) j (List.mem_range.mpr hj)
    rw [List.getElem?_eq_getElem hi, List.getElem?_eq_getElem hj] at q
    unfold cvOf
    rw [List.getElem?_eq_getElem hi, List.getElem?_eq_getElem hj]
    exact of_decide_eq_true q
theorem SaysX.lam (c : SaysX T fn K) {i : Nat} {fd : Fd} (hi : T.fns[i]? = some fd) (hl : fd.lam = true) : lamB K (He.ga K fd.nm) = true := by
  have q := List.all_eq_true.mp (band (band (band (band c.t0).2).2).1).1 fd (List.mem_of_getElem? hi)
  rw [hl] at q
  simpa using q
theorem SaysX.gth (c : SaysX T fn K) (X : K.In h) (G : h.Ns mainGlobals mg) {i : Nat} {th : Th} (hi : T.thk[i]? = some th) : mg th.nm = some (.ref (He.ga K th.nm)) :=
  He.glo_ok X G (List.all_eq_true.mp (band (band (band (band c.t0).2).2).1).2 th (List.mem_of_getElem? hi))
theorem SaysX.hd (c : SaysX T fn K) (X : K.In h) : ∀ p ∈ tabsC K, PySem.W.CodeHd h p.1 p.2 := fun p hp =>
  PySem.W.codeHd_of_K X (List.all_eq_true.mp (band (band (band (band c.t0).2).2).2).1 p hp)
theorem SaysX.nd (c : SaysX T fn K) : ((tabsC K).map (·.2)).Nodup := of_decide_eq_true (band (band (band (band c.t0).2).2).2).2
theorem tabs_none {K : PySem.W.Frag} : ∀ p ∈ tabsC K, K.lookup p.2 = none := by
  intro p hp
  obtain ⟨z, _, hz⟩ := List.mem_filterMap.mp hp
  split at hz <;> first | (cases hz; done) | skip
  unfold tabAt at hz
  split at hz <;> first | (cases hz; done) | skip
  split at hz <;> first | (cases hz; done) | skip
  split at hz <;> first | (cases hz; done) | skip
  split at hz <;> first | (cases hz; done) | skip
  rename_i hn
  cases hz
  simpa using hn
theorem tabs_two (L : List (Addr × Obj)) (K : PySem.W.Frag) : (L.filterMap fun p => match p.2.data with
    | .func fd => (tabAt K fd.code).map fun z => (z.2, lamQ fd.qualname)
    | _ => none).map (·.1) = (L.filterMap fun p => match p.2.data with
    | .func fd => tabAt K fd.code
    | _ => none).map (·.2) := by
  induction L with
  | nil => rfl
  | cons a L ih =>
    rw [List.filterMap_cons, List.filterMap_cons]
    cases hd : a.2.data with
    | func fd =>
      simp only [hd]
      cases ht : tabAt K fd.code with
      | none => simp only [ht, Option.map_none]; exact ih
      | some z => simp only [ht, Option.map_some, List.map_cons]; rw [ih]
    | _ => simp only [hd]; exact ih
theorem tabs_eq {K : PySem.W.Frag} : (tabsOf K).map (·.1) = (tabsC K).map (·.2) := tabs_two K K
theorem SaysX.glo (c : SaysX T fn K) (X : K.In h) (G : h.Ns mainGlobals mg) {i : Nat} {fd : Fd} (hi : T.fns[i]? = some fd) : mg fd.nm = some (.ref (He.ga K fd.nm)) :=
  He.glo_ok X G (List.all_eq_true.mp (band c.t).1 fd (List.mem_of_getElem? hi))
theorem SaysX.blt (c : SaysX T fn K) (X : K.In h) (G : h.Ns mainGlobals mg) : ∀ x ∈ T.blt, mg x = none := fun x hx =>
  He.free_ok X G (List.all_eq_true.mp (band (band c.t).2).1 x hx)
def Tb.C (T : Tb) (g : Nat) : Option D := (T.cons[g]?).map (·.2)
theorem SaysX.con (c : SaysX T fn K) (X : K.In h) (G : h.Ns mainGlobals mg) : ∀ (g : Nat) d, T.C g = some d → ∃ x u v, (T.cons[g]?).map (·.1) = some x ∧ mg x = some u ∧ RelV v u ∧ ∀ W, Rp K W d v := by
  intro g d hd
  unfold Tb.C at hd
  cases hg : T.cons[g]? with
  | none => rw [hg] at hd; cases hd
  | some p =>
    rw [hg] at hd
    cases hd
    have q := List.all_eq_true.mp (band (band (band c.t).2).2).1 p (List.mem_of_getElem? hg)
    split at q
    · rename_i v e
      obtain ⟨u, r1, r2⟩ := con_ok q
      exact ⟨p.1, v, u, rfl, PySem.W.mg_of X G e, r1, r2⟩
    · cases q
theorem lookup_mem {α β : Type} [BEq α] : ∀ {l : List (α × β)} {a : α} {b : β}, l.lookup a = some b → ∃ k, (k, b) ∈ l
  | [], _, _, h => by cases h
  | (k, v) :: l, a, b, h => by
    rw [List.lookup_cons] at h
    split at h
    · cases h; exact ⟨k, List.mem_cons_self ..⟩
    · obtain ⟨k', hk⟩ := lookup_mem h
      exact ⟨k', List.mem_cons_of_mem _ hk⟩
theorem SaysX.noL (c : SaysX T fn K) {a : Addr} {o : Obj} (hl : K.lookup a = some o) : o.cls ≠ .type "list" := by
  obtain ⟨k, hk⟩ := lookup_mem hl
  have q := List.all_eq_true.mp (band (band (band c.t).2).2).2 _ hk
  intro e
  rw [e] at q
  cases q
theorem SaysX.rd (c : SaysX T fn K) {H : Hp} {a : Addr} {xs : List V} (hl : SqL K H a xs) : Rd H a (.lst xs) := by
  rcases hl with r | ⟨o, its, n, e1, e2, _⟩
  · exact r
  · exact (c.noL e1 e2).elim
end
theorem ints_rp {K : PySem.W.Frag} {W : Wd} : ∀ ns : List Int, RpL K W (ns.map D.int) (ns.map V.int)
  | [] => .nil
  | i :: ns => .cons rfl (.int i) (ints_rp ns)
/-- the law's promise from the plain law -/
theorem sp_law {T : Tb} {fn : List He.DefD} {K : PySem.W.Frag} (c : SaysX T fn K) {cv : Nat → Value} {f : List D → M D} (hf : ∀ ns : List Int, ns.length ≤ 63 → ∀ s0, ∃ s', f [.lst (ns.map .int)] s0 = some (.ok (.bl true), s'))
    (H : Hp) (a : Addr) (ns : List Int) (hl : ns.length ≤ 63) (hT : ∀ p ∈ tabsC K, H p.2 = some (.tbl #[])) (hS : SqL K H a (ns.map V.int)) : spF K cv f 1 [.ref a] H (fun v _ => v = .bl true) fun _ _ _ => False := by
  obtain ⟨s', e⟩ := hf ns hl ((tabsOf K).map fun p => .tab p.2)
  have hA : ∀ b ∈ (tabsOf K).map (·.1), H b = some (.tbl #[]) := fun b hb => by
    rw [tabs_eq] at hb
    obtain ⟨p, hp, e⟩ := List.mem_map.mp hb
    rw [← e]
    exact hT p hp
  have st0 : StOk K ⟨H, (tabsOf K).map (·.1), fun b => b ∈ (tabsOf K).map (·.1)⟩ ((tabsOf K).map fun p => .tab p.2) := by
    refine { len := by rw [List.length_map, List.length_map], nd := by rw [show (Wd.mk H ((tabsOf K).map (·.1)) fun b => b ∈ (tabsOf K).map (·.1)).as = (tabsC K).map (·.2) from tabs_eq]; exact c.nd, inF := fun a h => h, tr := fun a h => by show H a ≠ none; rw [hA a h]; simp, cell := fun n c a h1 h2 => ?_, tab := fun i p h => ⟨by rw [List.getElem?_map, h]; rfl, by show ((tabsOf K).map (·.1))[i]? = _; rw [List.getElem?_map, h]; rfl⟩ }
    have h2 : ((tabsOf K).map (·.1))[n]? = some a := h2
    rw [List.getElem?_map] at h1
    cases hp : (tabsOf K)[n]? with
    | none => rw [hp] at h1; cases h1
    | some p =>
      rw [hp] at h1
      cases h1
      refine ⟨.tbl #[], hA a (List.mem_of_getElem? h2), True.intro, fun pos cv hcv => ?_⟩
      have z : codeAmong pos [] = some cv := hcv
      simp [codeAmong] at z
  have rd := c.rd hS
  refine ⟨rfl, [.lst (ns.map .int)], _, ⟨H, (tabsOf K).map (·.1), fun b => b ∈ (tabsOf K).map (·.1)⟩, rfl, st0, .cons rfl (.lst rd (fun z => ?_) ?_ (ints_rp ns)) .nil, ?_⟩
  · have := hA a z
    rcases rd with r | ⟨o, r⟩
    · rw [r] at this; cases this
    · rw [r] at this; cases this
  · rw [List.length_map]
    exact Nat.le_trans hl (by decide)
  · rw [e]
    intro W' n st v rv
    cases rv
    rfl
theorem cx_none {P : Program} {w : World} {H : Hp} {s : Shared} {e : Value} {s' : Shared} : L2.CX P w [] H s (fun _ _ _ => False) e s' → False := fun ⟨_, _, _, _, _, _, _, _, _, _, _, _, h⟩ => h
/-- the law's end, with tables of code objects; what is known hangs on the heap -/
theorem walk_ev {l : PySem.W.OpenLaw} {n k : Nat} {q : Program} {loose : List Str} {XP : (Str → Option Value) → Heap → Prop} {YP : World → Heap → Prop} {d : DefRec} {CX : World → CXT} {x : Str}
    (hn : l.most = some n) (hn2 : n ≤ sizeLine) (hdf : d.params.defaults = []) (hr : Room k callerA)
    (F : ∀ (w : World) (mg : Str → Option Value) (fa : Addr) (h : Heap), YP w h → h.Ns mainGlobals mg → mg d.name = some (.ref fa) → ∃ K : PySem.W.Frag, K.In h ∧ LamX.LawAtS l w K (CX w) k n x mg fa h)
    (hCX : ∀ (w : World) (H : Hp) (s : Shared) (e : Value) (s' : Shared), CX w [] H s (fun _ _ _ => False) e s' → False) :
    PySem.W.WalkO q loose XP YP l.row.toRowW d [] (fun f vs => PySem.call f vs) := by
  refine Att.attach_callB hn hdf fun w s₀ s₁ mg mb fa o pm cd doc a vs ns G Y ho hd hcd hmg hobj hints hlen hbits hg => ?_
  obtain ⟨K, KX, fd, cs, sp, hT, nT, Cs, hb, hsp, hF⟩ := F w mg fa _ Y G.T.g hmg
  exact LamX.law_callTs KX G.T.g G.T.b G.T.builtins G.T.nolimit hg hT nT Cs G.T.bmain hobj hints (Nat.le_trans hlen hn2) hr hF hb (fun H hH hS => hsp H a ns hlen hbits hH hS) fun H e s2 => hCX w H s₁ e s2
end Ev

namespace Ev
section
variable {α β : Type} {s : Store}
def wp (m : M α) (Q : α → Store → Prop) (s : Store) : Prop := match m s with
  | some (.ok a, s') => Q a s'
  | _ => False
theorem wp_pur {a : α} {Q : α → Store → Prop} : wp (pur a) Q s ↔ Q a s := Iff.rfl
theorem wp_bnd {m : M α} {g : α → M β} {Q : β → Store → Prop} : wp (bnd m g) Q s ↔ wp m (fun a s' => wp (g a) Q s') s := by
  unfold wp bnd
  cases m s with
  | none => exact Iff.rfl
  | some r =>
    obtain ⟨r, s'⟩ := r
    cases r <;> exact Iff.rfl
theorem wp_ofO {o : Option α} {Q : α → Store → Prop} : wp (ofO o) Q s ↔ ∃ a, o = some a ∧ Q a s := by
  cases o with
  | none => exact ⟨fun h => h.elim, fun ⟨_, h, _⟩ => by cases h⟩
  | some a => exact ⟨fun h => ⟨a, rfl, h⟩, fun ⟨_, h, q⟩ => by cases h; exact q⟩
theorem wp_mono {m : M α} {Q Q' : α → Store → Prop} (h : wp m Q s) (hq : ∀ a s', Q a s' → Q' a s') : wp m Q' s := by
  unfold wp at h ⊢
  cases e : m s with
  | none => rw [e] at h; exact h
  | some r =>
    obtain ⟨r, s'⟩ := r
    rw [e] at h
    cases r with
    | ok a => exact hq a s' h
    | err x => exact h
theorem wp_out {m : M α} {Q : α → Store → Prop} (h : wp m Q s) : ∃ a s', m s = some (.ok a, s') ∧ Q a s' := by
  unfold wp at h
  cases e : m s with
  | none => rw [e] at h; exact h.elim
  | some r =>
    obtain ⟨r, s'⟩ := r
    rw [e] at h
    cases r with
    | ok a => exact ⟨a, s', rfl, h⟩
    | err x => exact h.elim
theorem wp_noE {m : M α} {Q : α → Store → Prop} : wp (noE m) Q s ↔ wp m Q s := by
  unfold wp noE
  cases m s with
  | none => exact Iff.rfl
  | some r =>
    obtain ⟨r, s'⟩ := r
    cases r <;> exact Iff.rfl
theorem pur_bnd {a : α} {g : α → M β} : bnd (pur a) g = g a := id rfl
theorem some_bnd {a : α} {g : α → M β} : bnd (ofO (some a)) g = g a := id rfl
theorem ofO_some {a : α} : ofO (some a) = (pur a : M α) := id rfl
theorem non_bnd {g : α → M β} : bnd (non : M α) g = non := id rfl
theorem noE_pur {a : α} : noE (pur a : M α) = pur a := id rfl
theorem slot0 {d : D} {ρ : Env} : slot (some d :: ρ) 0 = some d := id rfl
theorem slotS {o : Option D} {n : Nat} {ρ : Env} : slot (o :: ρ) (n + 1) = slot ρ n := by
  unfold slot
  simp only [List.getElem?_cons_succ]
theorem asOk_ok {d : D} (h : d.ok = true) : asOk d = pur d := by unfold asOk; rw [if_pos h]
theorem asBl_bl {b : Bool} : asBl (.bl b) = pur b := id rfl
/-- a comprehension whose steps are plain -/
theorem compL_pure {f : D → M (Option D)} (g : D → Option D) : ∀ {ds : List D}, (∀ d ∈ ds, f d = pur (g d)) → compL f ds = pur (ds.filterMap g)
  | [], _ => rfl
  | d :: ds, h => by
    unfold compL
    rw [h d (List.mem_cons_self ..), compL_pure g fun x hx => h x (List.mem_cons_of_mem _ hx), List.filterMap_cons]
    cases g d <;> rfl
theorem wp_compL {f : D → M (Option D)} (I : List D → List D → Store → Prop) {Q : List D → Store → Prop}
    (step : ∀ pre d acc s, I pre acc s → wp (f d) (fun o s' => I (pre ++ [d]) (match o with | some x => acc ++ [x] | none => acc) s') s) :
    ∀ (ds pre acc : List D) (s : Store), I pre acc s → (∀ r s', I (pre ++ ds) (acc ++ r) s' → Q r s') → wp (compL f ds) Q s
  | [], pre, acc, s, h, q => by
    show Q [] s
    exact q [] s (by simpa using h)
  | d :: ds, pre, acc, s, h, q => by
    unfold compL
    rw [wp_bnd]
    refine wp_mono (step pre d acc s h) fun o s' h' => ?_
    rw [wp_bnd]
    refine wp_compL I step ds (pre ++ [d]) _ s' h' fun r s'' h'' => ?_
    rw [wp_pur]
    cases o with
    | none => exact q r s'' (by simpa using h'')
    | some x => exact q (x :: r) s'' (by simpa using h'')
theorem wp_forL {f : D → Env → M Fl} (I : List D → Env → Store → Prop) {Q : Fl → Store → Prop}
    (step : ∀ pre d ρ s, I pre ρ s → wp (f d ρ) (fun r s' => match r with | .nx ρ' => I (pre ++ [d]) ρ' s' | .ret x => Q (.ret x) s') s) :
    ∀ (ds pre : List D) (ρ : Env) (s : Store), I pre ρ s → (∀ ρ' s', I (pre ++ ds) ρ' s' → Q (.nx ρ') s') → wp (forL f ds ρ) Q s
  | [], pre, ρ, s, h, q => by
    show Q (.nx ρ) s
    exact q ρ s (by simpa using h)
  | d :: ds, pre, ρ, s, h, q => by
    unfold forL
    rw [wp_bnd]
    refine wp_mono (step pre d ρ s h) fun r s' h' => ?_
    cases r with
    | nx ρ' => exact wp_forL I step ds (pre ++ [d]) ρ' s' h' fun ρ'' s'' h'' => q ρ'' s'' (by simpa using h'')
    | ret x => exact h'
/-- a loop that goes through every item, or comes back at the first bad one -/
theorem forL_good {f : D → Env → M Fl} {P : Env → Prop} {good : D → Bool} {x : D} : ∀ {ds : List D}, (∀ d ∈ ds, ∀ ρ, P ρ → if good d then ∃ ρ', f d ρ = pur (.nx ρ') ∧ P ρ' else f d ρ = pur (.ret x)) → ∀ ρ, P ρ →
    if ds.all good then ∃ ρ', forL f ds ρ = pur (.nx ρ') ∧ P ρ' else forL f ds ρ = pur (.ret x)
  | [], _, ρ, h => ⟨ρ, rfl, h⟩
  | d :: ds, hs, ρ, h => by
    have h1 := hs d (List.mem_cons_self ..) ρ h
    have ih := forL_good (ds := ds) (fun y hy => hs y (List.mem_cons_of_mem _ hy))
    rw [List.all_cons]
    unfold forL
    cases hg : good d with
    | false =>
      rw [hg] at h1
      have h1 : f d ρ = pur (.ret x) := h1
      rw [h1]
      rfl
    | true =>
      rw [hg] at h1
      obtain ⟨ρ', e1, p1⟩ := h1
      rw [e1]
      exact ih ρ' p1
/-- a loop that keeps a running value -/
theorem forL_fold {σ : Type} {f : D → Env → M Fl} {P : σ → Env → Prop} {step : σ → D → σ} : ∀ {ds : List D}, (∀ d ∈ ds, ∀ x ρ, P x ρ → ∃ ρ', f d ρ = pur (.nx ρ') ∧ P (step x d) ρ') → ∀ x ρ, P x ρ →
    ∃ ρ', forL f ds ρ = pur (.nx ρ') ∧ P (ds.foldl step x) ρ'
  | [], _, x, ρ, h => ⟨ρ, rfl, h⟩
  | d :: ds, hs, x, ρ, h => by
    obtain ⟨ρ', e1, p1⟩ := hs d (List.mem_cons_self ..) x ρ h
    unfold forL
    rw [e1]
    exact forL_fold (ds := ds) (fun y hy => hs y (List.mem_cons_of_mem _ hy)) _ ρ' p1
end
theorem runF_at {T : List Fd} {C : Nat → Option D} {k i : Nat} {ds : List D} {fd : Fd} (h : T[i]? = some fd) (hl : ds.length = fd.ps) : runF T C (k + 1) i ds = bodyF (exS (runF T C k) C fd.body) fd.N.length ds := by
  show (match T[i]? with | some fd => _ | none => _) = _
  rw [h]
  show (if ds.length = fd.ps then _ else _) = _
  rw [if_pos hl]
  rfl
theorem if_bl {α : Type} {a b : M α} : (if true = true then a else b) = a := id rfl
mutual
theorem fit_mono : ∀ {n m : Nat} {d : D}, n ≤ m → d.fit n = true → d.fit m = true
  | _, _, .non, _, _ => by unfold D.fit; rfl
  | _, _, .bl _, _, _ => by unfold D.fit; rfl
  | _, _, .int _, _, _ => by unfold D.fit; rfl
  | _, _, .str _, _, _ => by unfold D.fit; rfl
  | 0, _, .tup _, _, h => by unfold D.fit at h; cases h
  | n + 1, 0, .tup _, hl, _ => absurd hl (by omega)
  | n + 1, m + 1, .tup l, hl, h => by
    unfold D.fit at h ⊢
    exact fitL_mono (by omega) h
  | 0, _, .lst _, _, h => by unfold D.fit at h; cases h
  | n + 1, 0, .lst _, hl, _ => absurd hl (by omega)
  | n + 1, m + 1, .lst l, hl, h => by
    unfold D.fit at h ⊢
    exact fitL_mono (by omega) h
  | 0, _, .own _, _, h => by unfold D.fit at h; cases h
  | n + 1, 0, .own _, hl, _ => absurd hl (by omega)
  | n + 1, m + 1, .own l, hl, h => by
    unfold D.fit at h ⊢
    exact fitL_mono (by omega) h
  | _, _, .ref _, _, h => by unfold D.fit at h; cases h
theorem fitL_mono : ∀ {n m : Nat} {ds : List D}, n ≤ m → D.fitL n ds = true → D.fitL m ds = true
  | _, _, [], _, _ => by unfold D.fitL; rfl
  | n, m, d :: ds, hl, h => by
    unfold D.fitL at h ⊢
    obtain ⟨h1, h2⟩ := band h
    rw [fit_mono hl h1, fitL_mono hl h2]
    rfl
end
theorem fitL_iff {n : Nat} : ∀ {ds : List D}, D.fitL n ds = true ↔ ∀ d ∈ ds, d.fit n = true
  | [] => by unfold D.fitL; simp
  | d :: ds => by
    unfold D.fitL
    rw [Bool.and_eq_true, fitL_iff]
    simp
end Ev

namespace Ev
theorem ev_var {Φ : Fun} {C : Nat → Option D} {ρ : Env} {i : Nat} : ev Φ C (.var i) ρ = ofO (slot ρ i) := id rfl
theorem ev_lit {Φ : Fun} {C : Nat → Option D} {ρ : Env} {d : D} : ev Φ C (.lit d) ρ = pur d := id rfl
theorem ev_con {Φ : Fun} {C : Nat → Option D} {ρ : Env} {g : Nat} : ev Φ C (.con g) ρ = ofO (C g) := id rfl
theorem ev_tup {Φ : Fun} {C : Nat → Option D} {ρ : Env} {l : Ex} : ev Φ C (.tup l) ρ = bnd (evL Φ C l ρ) fun ds => pur (.tup ds) := id rfl
theorem ev_lst {Φ : Fun} {C : Nat → Option D} {ρ : Env} {l : Ex} : ev Φ C (.lst l) ρ = bnd (evL Φ C l ρ) fun ds => pur (.lst ds) := id rfl
theorem ev_un {Φ : Fun} {C : Nat → Option D} {ρ : Env} {o : Uo} {a : Ex} : ev Φ C (.un o a) ρ = bnd (ev Φ C a ρ) fun x => ofO (uop o x) := id rfl
theorem ev_bi {Φ : Fun} {C : Nat → Option D} {ρ : Env} {o : Bo} {a b : Ex} : ev Φ C (.bi o a b) ρ = bnd (ev Φ C a ρ) fun x => bnd (ev Φ C b ρ) fun y => ofO (bop o x y) := id rfl
theorem ev_ch {Φ : Fun} {C : Nat → Option D} {ρ : Env} {o p : Bo} {a b c : Ex} : ev Φ C (.ch o p a b c) ρ = bnd (ev Φ C a ρ) fun x => bnd (ev Φ C b ρ) fun y => bnd (ofO (bop o x y)) fun t => bnd (asBl t) fun k => if k then bnd (ev Φ C c ρ) fun z => ofO (bop p y z) else pur (.bl false) := id rfl
theorem ev_not {Φ : Fun} {C : Nat → Option D} {ρ : Env} {a : Ex} : ev Φ C (.not a) ρ = bnd (ev Φ C a ρ) fun x => bnd (asBl x) fun k => pur (.bl (!k)) := id rfl
theorem ev_and {Φ : Fun} {C : Nat → Option D} {ρ : Env} {a b : Ex} : ev Φ C (.and a b) ρ = bnd (ev Φ C a ρ) fun x => bnd (asBl x) fun k => if k then ev Φ C b ρ else pur (.bl false) := id rfl
theorem ev_or {Φ : Fun} {C : Nat → Option D} {ρ : Env} {a b : Ex} : ev Φ C (.or a b) ρ = bnd (ev Φ C a ρ) fun x => bnd (asBl x) fun k => if k then pur (.bl true) else ev Φ C b ρ := id rfl
theorem ev_ite {Φ : Fun} {C : Nat → Option D} {ρ : Env} {c a b : Ex} : ev Φ C (.ite c a b) ρ = bnd (ev Φ C c ρ) fun x => bnd (asBl x) fun k => if k then ev Φ C a ρ else ev Φ C b ρ := id rfl
theorem ev_cut {Φ : Fun} {C : Nat → Option D} {ρ : Env} {a lo hi : Ex} : ev Φ C (.cut a lo hi) ρ = bnd (ev Φ C a ρ) fun x => bnd (evO Φ C lo ρ) fun l => bnd (evO Φ C hi ρ) fun h => ofO (cutO x l h) := id rfl
theorem ev_call {Φ : Fun} {C : Nat → Option D} {ρ : Env} {f : Nat} {l : Ex} : ev Φ C (.call f l) ρ = bnd (evL Φ C l ρ) fun ds => Φ f ds := id rfl
theorem ev_cel {Φ : Fun} {C : Nat → Option D} {ρ : Env} {a : Ex} : ev Φ C (.cel a) ρ = bnd (ev Φ C a ρ) celOf := id rfl
theorem ev_at0 {Φ : Fun} {C : Nat → Option D} {ρ : Env} {a j : Ex} : ev Φ C (.at0 a j) ρ = bnd (ev Φ C a ρ) fun x => bnd (ev Φ C j ρ) fun y => atOf x y := id rfl
theorem ev_meth {Φ : Fun} {C : Nat → Option D} {ρ : Env} {o : Bo} {a b : Ex} : ev Φ C (.meth o a b) ρ = bnd (ev Φ C a ρ) fun x => bnd (isStrM x) fun _ => bnd (ev Φ C b ρ) fun y => ofO (bop o x y) := id rfl
theorem ev_dct {Φ : Fun} {C : Nat → Option D} {ρ : Env} {ks : List Kd} {l : Ex} : ev Φ C (.dct ks l) ρ = bnd (noE (evL Φ C l ρ)) fun ds => if ds.length = ks.length then celD (dMk ks ds) else non := id rfl
theorem ev_get2 {Φ : Fun} {C : Nat → Option D} {ρ : Env} {a b c : Ex} : ev Φ C (.get2 a b c) ρ = bnd (ev Φ C a ρ) fun x => bnd (isDct x) fun _ => bnd (ev Φ C b ρ) fun y => bnd (ev Φ C c ρ) fun z => getOf x y z := id rfl
theorem ev_idx {Φ : Fun} {C : Nat → Option D} {ρ : Env} {t : Bool} {a b : Ex} : ev Φ C (.idx t a b) ρ = bnd (ev Φ C a ρ) fun x => bnd (isSqM t x) fun _ => bnd (ev Φ C b ρ) fun y => ofO (idxO t x y) := id rfl
theorem ev_lam {Φ : Fun} {C : Nat → Option D} {ρ : Env} {h : Th} {e : Ex} : ev Φ C (.lam h e) ρ = lamF h (ev Φ C e ρ) := id rfl
theorem evL_nil {Φ : Fun} {C : Nat → Option D} {ρ : Env} : evL Φ C .nil ρ = pur [] := id rfl
theorem evL_cons {Φ : Fun} {C : Nat → Option D} {ρ : Env} {a r : Ex} : evL Φ C (.cons a r) ρ = bnd (ev Φ C a ρ) fun x => bnd (asOk x) fun y => bnd (evL Φ C r ρ) fun ys => pur (y :: ys) := id rfl
theorem evO_nil {Φ : Fun} {C : Nat → Option D} {ρ : Env} : evO Φ C .nil ρ = pur none := id rfl
theorem evO_val {Φ : Fun} {C : Nat → Option D} {ρ : Env} {a : Ex} : evO Φ C (.val a) ρ = bnd (ev Φ C a ρ) intOf := id rfl
theorem evC_nil {Φ : Fun} {C : Nat → Option D} {ρ : Env} : evC Φ C .nil ρ = pur true := id rfl
theorem evC_val {Φ : Fun} {C : Nat → Option D} {ρ : Env} {a : Ex} : evC Φ C (.val a) ρ = bnd (ev Φ C a ρ) asBl := id rfl
theorem itr_val {Φ : Fun} {C : Nat → Option D} {ρ : Env} {a : Ex} : itr Φ C (.val a) ρ = bnd (ev Φ C a ρ) fun x => ofO (itemsOf x) := id rfl
theorem itr_rng1 {Φ : Fun} {C : Nat → Option D} {ρ : Env} {a : Ex} : itr Φ C (.rng1 a) ρ = bnd (ev Φ C a ρ) rng1Of := id rfl
theorem itr_rng2 {Φ : Fun} {C : Nat → Option D} {ρ : Env} {a b : Ex} : itr Φ C (.rng2 a b) ρ = bnd (ev Φ C a ρ) fun x => bnd (asOk x) fun _ => bnd (ev Φ C b ρ) fun y => rng2Of x y := id rfl
theorem itr_zip {Φ : Fun} {C : Nat → Option D} {ρ : Env} {a b : Ex} : itr Φ C (.zip a b) ρ = bnd (ev Φ C a ρ) fun x => bnd (asOk x) fun _ => bnd (ev Φ C b ρ) fun y => zipOf x y := id rfl
theorem ex_nil {Φ : Fun} {C : Nat → Option D} {ρ : Env} : exS Φ C .nil ρ = pur (.nx ρ) := id rfl
theorem ex_cons {Φ : Fun} {C : Nat → Option D} {ρ : Env} {s r : Sx} : exS Φ C (.cons s r) ρ = bnd (exS Φ C s ρ) fun x => (match x with
  | .nx ρ' => exS Φ C r ρ'
  | .ret d => pur (.ret d)) := id rfl
theorem ex_skip {Φ : Fun} {C : Nat → Option D} {ρ : Env} : exS Φ C .skip ρ = pur (.nx ρ) := id rfl
theorem ex_set {Φ : Fun} {C : Nat → Option D} {ρ : Env} {i : Nat} {e : Ex} : exS Φ C (.set i e) ρ = bnd (ev Φ C e ρ) fun x => bnd (asOk x) fun y => pur (.nx (ρ.set i (some y))) := id rfl
theorem ex_own {Φ : Fun} {C : Nat → Option D} {ρ : Env} {i : Nat} {e : Ex} : exS Φ C (.own i e) ρ = bnd (ev Φ C e ρ) (lstK fun l => pur (.nx (ρ.set i (some (.own l))))) := id rfl
theorem ex_frz {Φ : Fun} {C : Nat → Option D} {ρ : Env} {i : Nat} : exS Φ C (.frz i) ρ = frzK (fun ρ' => pur (.nx ρ')) i ρ (slot ρ i) := id rfl
theorem ex_unp {Φ : Fun} {C : Nat → Option D} {ρ : Env} {is : List Nat} {e : Ex} : exS Φ C (.unp is e) ρ = bnd (ev Φ C e ρ) fun x => bnd (ofO (bindTs is x ρ)) fun ρ' => pur (.nx ρ') := id rfl
theorem ex_par {Φ : Fun} {C : Nat → Option D} {ρ : Env} {is : List Nat} {l : Ex} : exS Φ C (.par is l) ρ = bnd (evL Φ C l ρ) fun ds => if ds.length = is.length then pur (.nx (sets is ds ρ)) else non := id rfl
theorem ex_app {Φ : Fun} {C : Nat → Option D} {ρ : Env} {i : Nat} {e : Ex} : exS Φ C (.app i e) ρ = appK (ev Φ C e ρ) i ρ (slot ρ i) := id rfl
theorem ex_put {Φ : Fun} {C : Nat → Option D} {ρ : Env} {a j e : Ex} : exS Φ C (.put a j e) ρ = bnd (ev Φ C e ρ) fun x => bnd (asOk x) fun y => bnd (ev Φ C a ρ) fun o => bnd (ev Φ C j ρ) fun z => bnd (putOf o z y) fun _ => pur (.nx ρ) := id rfl
theorem ex_bad {Φ : Fun} {C : Nat → Option D} {ρ : Env} : exS Φ C .bad ρ = non := id rfl
theorem ex_rse {Φ : Fun} {C : Nat → Option D} {ρ : Env} {c : Nat} : exS Φ C (.rse c) ρ = raise ⟨c, none⟩ := id rfl
theorem ex_rsf {Φ : Fun} {C : Nat → Option D} {ρ : Env} {c : Nat} {f : PySem.Str} {e : Ex} : exS Φ C (.rsf c f e) ρ = bnd (ev Φ C e ρ) fun x => bnd (asOk x) fun y => raise ⟨c, some (f, y)⟩ := id rfl
theorem ex_try {Φ : Fun} {C : Nat → Option D} {ρ : Env} {b : Sx} {hs : List Hd} : exS Φ C (.try_ b hs) ρ = tryF hs (exS Φ C b ρ) := id rfl
theorem ex_paro {Φ : Fun} {C : Nat → Option D} {ρ : Env} {i j : Nat} {both : Bool} {a b : Ex} : exS Φ C (.paro i j both a b) ρ = bnd (ev Φ C a ρ) (lstK fun l => bnd (ev Φ C b ρ) fun x => bnd (ownK both x) fun y => pur (.nx ((ρ.set i (some (.own l))).set j (some y)))) := id rfl
theorem itr_enu {Φ : Fun} {C : Nat → Option D} {ρ : Env} {a : Ex} : itr Φ C (.enu a) ρ = bnd (ev Φ C a ρ) enuOf := id rfl
theorem ex_ret {Φ : Fun} {C : Nat → Option D} {ρ : Env} {e : Ex} : exS Φ C (.ret e) ρ = bnd (ev Φ C e ρ) fun x => bnd (asOk x) fun y => pur (.ret y) := id rfl
theorem ex_drop {Φ : Fun} {C : Nat → Option D} {ρ : Env} {e : Ex} : exS Φ C (.drop e) ρ = bnd (ev Φ C e ρ) fun _ => pur (.nx ρ) := id rfl
theorem ex_ite {Φ : Fun} {C : Nat → Option D} {ρ : Env} {c : Ex} {t e : Sx} : exS Φ C (.ite c t e) ρ = bnd (ev Φ C c ρ) fun x => bnd (asBl x) fun k => if k then exS Φ C t ρ else exS Φ C e ρ := id rfl
theorem ex_for {Φ : Fun} {C : Nat → Option D} {ρ : Env} {tg : List Nat} {it : Ex} {b : Sx} : exS Φ C (.for_ tg it b) ρ = bnd (itr Φ C it ρ) fun ds => forL (fun d ρ' => bnd (ofO (bindT tg d ρ')) fun ρ'' => exS Φ C b ρ'') ds ρ := id rfl
theorem u_isStr_non : uop .isStr .non = some (.bl false) := id rfl
theorem u_isStr_bl {b : Bool} : uop .isStr (.bl b) = some (.bl false) := id rfl
theorem u_isStr_int {i : Int} : uop .isStr (.int i) = some (.bl false) := id rfl
theorem u_isStr_str {s : List Nat} : uop .isStr (.str s) = some (.bl true) := id rfl
theorem u_isStr_tup {l : List D} : uop .isStr (.tup l) = some (.bl false) := id rfl
theorem u_isStr_lst {l : List D} : uop .isStr (.lst l) = some (.bl false) := id rfl
theorem u_isStr_own {l : List D} : uop .isStr (.own l) = some (.bl false) := id rfl
theorem u_isTup_non : uop .isTup .non = some (.bl false) := id rfl
theorem u_isTup_bl {b : Bool} : uop .isTup (.bl b) = some (.bl false) := id rfl
theorem u_isTup_int {i : Int} : uop .isTup (.int i) = some (.bl false) := id rfl
theorem u_isTup_str {s : List Nat} : uop .isTup (.str s) = some (.bl false) := id rfl
theorem u_isTup_tup {l : List D} : uop .isTup (.tup l) = some (.bl true) := id rfl
theorem u_isTup_lst {l : List D} : uop .isTup (.lst l) = some (.bl false) := id rfl
theorem u_isTup_own {l : List D} : uop .isTup (.own l) = some (.bl false) := id rfl
theorem u_isInt_non : uop .isInt .non = some (.bl false) := id rfl
theorem u_isInt_bl {b : Bool} : uop .isInt (.bl b) = some (.bl true) := id rfl
theorem u_isInt_int {i : Int} : uop .isInt (.int i) = some (.bl true) := id rfl
theorem u_isInt_str {s : List Nat} : uop .isInt (.str s) = some (.bl false) := id rfl
theorem u_isInt_tup {l : List D} : uop .isInt (.tup l) = some (.bl false) := id rfl
theorem u_isInt_lst {l : List D} : uop .isInt (.lst l) = some (.bl false) := id rfl
theorem u_isInt_own {l : List D} : uop .isInt (.own l) = some (.bl false) := id rfl
theorem u_isBl_non : uop .isBl .non = some (.bl false) := id rfl
theorem u_isBl_bl {b : Bool} : uop .isBl (.bl b) = some (.bl true) := id rfl
theorem u_isBl_int {i : Int} : uop .isBl (.int i) = some (.bl false) := id rfl
theorem u_isBl_str {s : List Nat} : uop .isBl (.str s) = some (.bl false) := id rfl
theorem u_isBl_tup {l : List D} : uop .isBl (.tup l) = some (.bl false) := id rfl
theorem u_isBl_lst {l : List D} : uop .isBl (.lst l) = some (.bl false) := id rfl
theorem u_isBl_own {l : List D} : uop .isBl (.own l) = some (.bl false) := id rfl
theorem u_isLst_non : uop .isLst .non = some (.bl false) := id rfl
theorem u_isLst_bl {b : Bool} : uop .isLst (.bl b) = some (.bl false) := id rfl
theorem u_isLst_int {i : Int} : uop .isLst (.int i) = some (.bl false) := id rfl
theorem u_isLst_str {s : List Nat} : uop .isLst (.str s) = some (.bl false) := id rfl
theorem u_isLst_tup {l : List D} : uop .isLst (.tup l) = some (.bl false) := id rfl
theorem u_isLst_lst {l : List D} : uop .isLst (.lst l) = some (.bl true) := id rfl
theorem u_isLst_own {l : List D} : uop .isLst (.own l) = some (.bl true) := id rfl
theorem ok_non : asOk .non = pur .non := id rfl
theorem ok_bl {b : Bool} : asOk (.bl b) = pur (.bl b) := id rfl
theorem ok_int {i : Int} : asOk (.int i) = pur (.int i) := id rfl
theorem ok_str {s : List Nat} : asOk (.str s) = pur (.str s) := id rfl
theorem ok_tup {l : List D} : asOk (.tup l) = pur (.tup l) := id rfl
theorem ok_lst {l : List D} : asOk (.lst l) = pur (.lst l) := id rfl
theorem ok_own {l : List D} : asOk (.own l) = non := id rfl
theorem ok_ref {n : Nat} : asOk (.ref n) = pur (.ref n) := id rfl
theorem u_len_str {s : List Nat} : uop .len (.str s) = some (.int s.length) := id rfl
theorem u_len_tup {l : List D} : uop .len (.tup l) = some (.int l.length) := id rfl
theorem u_len_lst {l : List D} : uop .len (.lst l) = some (.int l.length) := id rfl
theorem u_len_own {l : List D} : uop .len (.own l) = some (.int l.length) := id rfl
theorem u_int_int {i : Int} : uop .int (.int i) = some (.int i) := id rfl
theorem u_neg_int {i : Int} : uop .neg (.int i) = some (.int (-i)) := id rfl
theorem u_tuple_tup {l : List D} : uop .tuple (.tup l) = some (.tup l) := id rfl
theorem u_list_tup {l : List D} : uop .list (.tup l) = some (.lst l) := id rfl
theorem u_tuple_lst {l : List D} : uop .tuple (.lst l) = some (.tup l) := id rfl
theorem u_list_lst {l : List D} : uop .list (.lst l) = some (.lst l) := id rfl
theorem u_tuple_own {l : List D} : uop .tuple (.own l) = some (.tup l) := id rfl
theorem u_list_own {l : List D} : uop .list (.own l) = some (.lst l) := id rfl
theorem u_rev_tup {l : List D} : uop .rev (.tup l) = some (.tup l.reverse) := id rfl
theorem u_rev_lst {l : List D} : uop .rev (.lst l) = some (.lst l.reverse) := id rfl
theorem b_add_int {i j : Int} : bop .add (.int i) (.int j) = some (.int (i + j)) := id rfl
theorem b_sub_int {i j : Int} : bop .sub (.int i) (.int j) = some (.int (i - j)) := id rfl
theorem b_add_tup {l m : List D} : bop .add (.tup l) (.tup m) = if l.length + m.length ≤ lim then some (.tup (l ++ m)) else none := id rfl
theorem b_add_str {l m : List Nat} : bop .add (.str l) (.str m) = if l.length + m.length ≤ lim then some (.str (l ++ m)) else none := id rfl
theorem b_add_lst {l m : List D} : bop .add (.lst l) (.lst m) = if l.length + m.length ≤ lim then some (.lst (l ++ m)) else none := id rfl
theorem b_mul_int {i j : Int} : bop .mul (.int i) (.int j) = if (-big < i ∧ i < big) ∨ (-big < j ∧ j < big) then some (.int (i * j)) else none := id rfl
theorem b_mod_int {i j : Int} : bop .mod (.int i) (.int j) = if 0 < j then some (.int (i % j)) else none := id rfl
theorem b_fdiv_int {i j : Int} : bop .fdiv (.int i) (.int j) = if 0 < j ∧ j < 1073741824 then some (.int (i / j)) else none := id rfl
theorem b_eq {a b : D} : bop .eq a b = (eqO a b).map .bl := id rfl
theorem b_ne {a b : D} : bop .ne a b = (eqO a b).map fun k => .bl (!k) := id rfl
theorem b_lt_int {i j : Int} : bop .lt (.int i) (.int j) = some (.bl (decide (i < j))) := id rfl
theorem b_lt_str {i j : List Nat} : bop .lt (.str i) (.str j) = some (.bl (decide (i < j))) := id rfl
theorem b_le_int {i j : Int} : bop .le (.int i) (.int j) = some (.bl (decide (i ≤ j))) := id rfl
theorem b_le_str {i j : List Nat} : bop .le (.str i) (.str j) = some (.bl (decide (i ≤ j))) := id rfl
theorem b_gt_int {i j : Int} : bop .gt (.int i) (.int j) = some (.bl (decide (j < i))) := id rfl
theorem b_gt_str {i j : List Nat} : bop .gt (.str i) (.str j) = some (.bl (decide (j < i))) := id rfl
theorem b_ge_int {i j : Int} : bop .ge (.int i) (.int j) = some (.bl (decide (j ≤ i))) := id rfl
theorem b_ge_str {i j : List Nat} : bop .ge (.str i) (.str j) = some (.bl (decide (j ≤ i))) := id rfl
theorem b_in_tup {x : D} {l : List D} : bop .inn x (.tup l) = (if x.fit deep && D.fitL deep l then some (l.any fun z => z.eq x) else none).map .bl := id rfl
theorem b_in_lst {x : D} {l : List D} : bop .inn x (.lst l) = (if x.fit deep && D.fitL deep l then some (l.any fun z => z.eq x) else none).map .bl := id rfl
theorem b_nin_tup {x : D} {l : List D} : bop .nin x (.tup l) = (if x.fit deep && D.fitL deep l then some (l.any fun z => z.eq x) else none).map fun k => .bl (!k) := id rfl
theorem b_in_str {c : Nat} {s : List Nat} : bop .inn (.str [c]) (.str s) = some (.bl (decide (c ∈ s))) := id rfl
theorem b_nin_str {c : Nat} {s : List Nat} : bop .nin (.str [c]) (.str s) = some (.bl (!decide (c ∈ s))) := id rfl
theorem b_is_bl {a b : Bool} : bop .is (.bl a) (.bl b) = some (.bl (decide (a = b))) := id rfl
theorem b_isn_bl {a b : Bool} : bop .isn (.bl a) (.bl b) = some (.bl (!decide (a = b))) := id rfl
theorem b_ix_tup {l : List D} {i : Int} : bop .ix (.tup l) (.int i) = pyAt l i := id rfl
theorem b_ix_lst {l : List D} {i : Int} : bop .ix (.lst l) (.int i) = pyAt l i := id rfl
theorem b_ix_str {l : List Nat} {i : Int} : bop .ix (.str l) (.int i) = (pyAt l i).map fun c => .str [c] := id rfl
theorem eqO_int {i j : Int} : eqO (.int i) (.int j) = some (i == j) := id rfl
theorem eqO_str {i j : List Nat} : eqO (.str i) (.str j) = some (i == j) := id rfl
theorem eqO_bl {i j : Bool} : eqO (.bl i) (.bl j) = some (i == j) := id rfl
theorem it_tup {l : List D} : itemsOf (.tup l) = some l := id rfl
theorem it_lst {l : List D} : itemsOf (.lst l) = some l := id rfl
theorem it_str {s : List Nat} : itemsOf (.str s) = some (s.map fun c => .str [c]) := id rfl
theorem intOf_int {i : Int} : intOf (.int i) = pur (some i) := id rfl
theorem zip_tup {l m : List D} : zipOf (.tup l) (.tup m) = pur (zipL l m) := id rfl
theorem zip_lst {l m : List D} : zipOf (.lst l) (.lst m) = pur (zipL l m) := id rfl
theorem rng1_int {i : Int} : rng1Of (.int i) = if rngOk i then pur (rngL 0 i) else non := id rfl
theorem rng2_int {i j : Int} : rng2Of (.int i) (.int j) = if rngOk i && (rngOk j && rngOk (j - i)) then pur (rngL i j) else non := id rfl
theorem cut_tup {l : List D} {lo hi : Option Int} : cutO (.tup l) lo hi = some (.tup (pyCut l lo hi)) := id rfl
theorem cut_lst {l : List D} {lo hi : Option Int} : cutO (.lst l) lo hi = some (.lst (pyCut l lo hi)) := id rfl
theorem set0 {o p : Option D} {ρ : Env} : (o :: ρ).set 0 p = p :: ρ := id rfl
theorem setS {o p : Option D} {ρ : Env} {n : Nat} : (o :: ρ).set (n + 1) p = o :: ρ.set n p := id rfl
theorem bindT1 {i : Nat} {d : D} {ρ : Env} : bindT [i] d ρ = some (ρ.set i (some d)) := id rfl
theorem bindT2 {i j : Nat} {x y : D} {ρ : Env} : bindT [i, j] (.tup [x, y]) ρ = some ((ρ.set i (some x)).set j (some y)) := id rfl
theorem ownK_t {l : List D} : ownK true (.lst l) = pur (.own l) := id rfl
theorem ownK_f {x : D} : ownK false x = asOk x := id rfl
theorem cut_own {l : List D} {lo hi : Option Int} : cutO (.own l) lo hi = some (.lst (pyCut l lo hi)) := id rfl
theorem b_in_own {x : D} {l : List D} : bop .inn x (.own l) = (if x.fit deep && D.fitL deep l then some (l.any fun z => z.eq x) else none).map .bl := id rfl
theorem b_nin_own {x : D} {l : List D} : bop .nin x (.own l) = (if x.fit deep && D.fitL deep l then some (l.any fun z => z.eq x) else none).map fun k => .bl (!k) := id rfl
theorem b_nin_lst {x : D} {l : List D} : bop .nin x (.lst l) = (if x.fit deep && D.fitL deep l then some (l.any fun z => z.eq x) else none).map fun k => .bl (!k) := id rfl
theorem b_ix_own {l : List D} {i : Int} : bop .ix (.own l) (.int i) = pyAt l i := id rfl
theorem bindP2 {i j : Nat} {x y : D} {ρ : Env} : bindT [i, j] (.pr x y) ρ = some ((ρ.set i (some x)).set j (some y)) := id rfl
theorem ok_pr {x y : D} : asOk (.pr x y) = pur (.pr x y) := id rfl
theorem sq_lst {l : List D} : isSqM false (.lst l) = pur () := id rfl
theorem sq_own {l : List D} : isSqM false (.own l) = pur () := id rfl
theorem sq_tup {l : List D} : isSqM true (.tup l) = pur () := id rfl
theorem idx_t {l : List D} {s : List Nat} : idxO true (.tup l) (.str s) = (strsOf l).bind fun ss => (ss.findIdx? fun z => z == s).map fun (i : Nat) => D.int (i : Int) := by unfold idxO idxT; simp only [if_true]
theorem idx_l {l : List D} {y : D} : idxO false (.lst l) y = if y.fit deep && D.fitL deep l then (l.findIdx? fun z => z.eq y).map fun (i : Nat) => D.int (i : Int) else none := by unfold idxO idxL; simp only [Bool.false_eq_true, if_false, D.lst?, Option.bind_some]
theorem idx_o {l : List D} {y : D} : idxO false (.own l) y = if y.fit deep && D.fitL deep l then (l.findIdx? fun z => z.eq y).map fun (i : Nat) => D.int (i : Int) else none := by unfold idxO idxL; simp only [Bool.false_eq_true, if_false, D.lst?, Option.bind_some]
theorem lam_pur {h : Th} {x : D} : lamF h (pur x) = if h.ret then asOk x else pur h.last := by
  funext s
  show (if h.ret then asOk x s else some (.ok h.last, s)) = _
  by_cases q : h.ret = true
  · rw [if_pos q, if_pos q]
  · rw [if_neg q, if_neg q]; rfl
theorem lam_err {h : Th} {e : Exc} : lamF h (raise e) = hdR h.hs e := id rfl
theorem try_pur {hs : List Hd} {x : Fl} : tryF hs (pur x) = pur x := id rfl
theorem try_err {hs : List Hd} {e : Exc} : tryF hs (raise e) = bnd (hdR hs e) fun d => pur (.ret d) := id rfl
theorem hdR_cons {j : Nat} {cs ns : List Nat} {a : Option Nat} {d : D} {r : List Hd} {e : Exc} : hdR (⟨j, cs, ns, a, .inl d⟩ :: r) e = if e.c ∈ cs then pur d else if e.c ∈ ns then hdR r e else non := id rfl
theorem raise_bnd {α β : Type} {e : Exc} {g : α → M β} : bnd (raise e : M α) g = raise e := id rfl
theorem enu_tup {l : List D} : enuOf (.tup l) = pur (enuL l) := id rfl
theorem sets2 {i j : Nat} {x y : D} {ρ : Env} : sets [i, j] [x, y] ρ = (ρ.set i (some x)).set j (some y) := id rfl
theorem wipe1 {i : Nat} {ρ : Env} : wipeE ρ [i] = ρ.set i none := id rfl
theorem wipe2 {i j : Nat} {ρ : Env} : wipeE ρ [i, j] = (ρ.set j none).set i none := id rfl
theorem app_own {m : M D} {i : Nat} {ρ : Env} {l : List D} : appK m i ρ (some (.own l)) = bnd m fun x => bnd (asOk x) fun y => if l.length < lim then pur (.nx (ρ.set i (some (.own (l ++ [y]))))) else non := id rfl
theorem frz_own {g : Env → M Fl} {i : Nat} {ρ : Env} {l : List D} : frzK g i ρ (some (.own l)) = g (ρ.set i (some (.lst l))) := id rfl
theorem lstK_lst {β : Type} {k : List D → M β} {l : List D} : lstK k (.lst l) = k l := id rfl
theorem isStr_str {s : List Nat} : isStrM (.str s) = pur () := id rfl
theorem enu_lst {l : List D} : enuOf (.lst l) = pur (enuL l) := id rfl
theorem map_s {α β : Type} {f : α → β} {a : α} : (some a).map f = some (f a) := id rfl
theorem map_n {α β : Type} {f : α → β} : (none : Option α).map f = none := id rfl
theorem ofO_n {α : Type} : (ofO none : M α) = non := id rfl
theorem bnd_ite {α β : Type} {c : Prop} [Decidable c] {a b : M α} {g : α → M β} : bnd (if c then a else b) g = if c then bnd a g else bnd b g := by
  by_cases h : c
  · rw [if_pos h, if_pos h]
  · rw [if_neg h, if_neg h]
theorem ofO_ite {α : Type} {c : Prop} [Decidable c] {a b : Option α} : ofO (if c then a else b) = if c then ofO a else ofO b := by
  by_cases h : c
  · rw [if_pos h, if_pos h]
  · rw [if_neg h, if_neg h]
theorem map_ite {α β : Type} {c : Prop} [Decidable c] {a b : Option α} {f : α → β} : (if c then a else b).map f = if c then a.map f else b.map f := by
  by_cases h : c
  · rw [if_pos h, if_pos h]
  · rw [if_neg h, if_neg h]
theorem ite_pur {α : Type} {c : Prop} [Decidable c] {a b : α} : (if c then pur a else pur b : M α) = pur (if c then a else b) := by
  by_cases h : c
  · rw [if_pos h, if_pos h]
  · rw [if_neg h, if_neg h]
theorem ite_bl {c : Prop} [Decidable c] {a b : Bool} : (if c then D.bl a else D.bl b) = D.bl (if c then a else b) := by
  by_cases h : c
  · rw [if_pos h, if_pos h]
  · rw [if_neg h, if_neg h]
theorem ite_ret {c : Prop} [Decidable c] {a b : D} : (if c then Fl.ret a else Fl.ret b) = Fl.ret (if c then a else b) := by
  by_cases h : c
  · rw [if_pos h, if_pos h]
  · rw [if_neg h, if_neg h]
theorem ev_comp_pure {Φ : Fun} {C : Nat → Option D} {ρ : Env} {tg : List Nat} {c elt it : Ex} (ds : List D) (g : D → Option D) (h : itr Φ C it ρ = pur ds)
    (hg : ∀ d ∈ ds, (bnd (ofO (bindT tg d (wipeE ρ tg))) fun ρ' => bnd (evC Φ C c ρ') fun k => if k then bnd (ev Φ C elt ρ') fun x => bnd (asOk x) fun y => pur (some y) else pur none) = pur (g d)) :
    ev Φ C (.comp tg c elt it) ρ = pur (.lst (ds.filterMap g)) := by
  have e : ev Φ C (.comp tg c elt it) ρ = bnd (itr Φ C it ρ) fun ds => bnd (noE (compL (fun d => bnd (ofO (bindT tg d (wipeE ρ tg))) fun ρ' => bnd (evC Φ C c ρ') fun k => if k then bnd (ev Φ C elt ρ') fun x => bnd (asOk x) fun y => pur (some y) else pur none) ds)) fun r => pur (D.lst r) := rfl
  rw [e, h, pur_bnd, compL_pure g hg]
  rfl
theorem ev_comp_map {Φ : Fun} {C : Nat → Option D} {ρ : Env} {tg : List Nat} {elt it : Ex} {α : Type} (xs : List α) (em g : α → D) (h : itr Φ C it ρ = pur (xs.map em))
    (hg : ∀ x ∈ xs, (bnd (ofO (bindT tg (em x) (wipeE ρ tg))) fun ρ' => bnd (ev Φ C elt ρ') fun x => bnd (asOk x) fun y => pur y) = pur (g x)) :
    ev Φ C (.comp tg .nil elt it) ρ = pur (.lst (xs.map g)) := by
  have e : ev Φ C (.comp tg .nil elt it) ρ = bnd (itr Φ C it ρ) fun ds => bnd (noE (compL (fun d => bnd (ofO (bindT tg d (wipeE ρ tg))) fun ρ' => bnd (ev Φ C elt ρ') fun x => bnd (asOk x) fun y => pur (some y)) ds)) fun r => pur (D.lst r) := rfl
  rw [e, h, pur_bnd]
  clear e h
  have key : compL (fun d => bnd (ofO (bindT tg d (wipeE ρ tg))) fun ρ' => bnd (ev Φ C elt ρ') fun x => bnd (asOk x) fun y => pur (some y)) (xs.map em) = pur (xs.map g) := by
    induction xs with
    | nil => rfl
    | cons x xs ih =>
      have h1 := hg x (List.mem_cons_self ..)
      have h2 : (bnd (ofO (bindT tg (em x) (wipeE ρ tg))) fun ρ' => bnd (ev Φ C elt ρ') fun x => bnd (asOk x) fun y => pur (some y)) = pur (some (g x)) := by
        have : (bnd (ofO (bindT tg (em x) (wipeE ρ tg))) fun ρ' => bnd (ev Φ C elt ρ') fun x => bnd (asOk x) fun y => pur (some y)) = bnd (bnd (ofO (bindT tg (em x) (wipeE ρ tg))) fun ρ' => bnd (ev Φ C elt ρ') fun x => bnd (asOk x) fun y => pur y) fun y => pur (some y) := by
          simp only [bnd_assoc]
          rfl
        rw [this, h1]
        rfl
      rw [List.map_cons]
      unfold compL
      rw [h2, ih fun y hy => hg y (List.mem_cons_of_mem _ hy)]
      rfl
  rw [key]
  rfl
theorem ev_comp_filter {Φ : Fun} {C : Nat → Option D} {ρ : Env} {tg : List Nat} {c elt it : Ex} {α : Type} (xs : List α) (em : α → D) (p : α → Bool) (g : α → D) (h : itr Φ C it ρ = pur (xs.map em))
    (hg : ∀ x ∈ xs, (bnd (ofO (bindT tg (em x) (wipeE ρ tg))) fun ρ' => bnd (ev Φ C c ρ') fun b => bnd (asBl b) fun k => if k then bnd (ev Φ C elt ρ') fun x => bnd (asOk x) fun y => pur (some y) else pur none) = pur (if p x then some (g x) else none)) :
    ev Φ C (.comp tg (.val c) elt it) ρ = pur (.lst ((xs.filter p).map g)) := by
  have e : ev Φ C (.comp tg (.val c) elt it) ρ = bnd (itr Φ C it ρ) fun ds => bnd (noE (compL (fun d => bnd (ofO (bindT tg d (wipeE ρ tg))) fun ρ' => bnd (bnd (ev Φ C c ρ') asBl) fun k => if k then bnd (ev Φ C elt ρ') fun x => bnd (asOk x) fun y => pur (some y) else pur none) ds)) fun r => pur (D.lst r) := rfl
  rw [e, h, pur_bnd]
  clear e h
  have key : compL (fun d => bnd (ofO (bindT tg d (wipeE ρ tg))) fun ρ' => bnd (bnd (ev Φ C c ρ') asBl) fun k => if k then bnd (ev Φ C elt ρ') fun x => bnd (asOk x) fun y => pur (some y) else pur none) (xs.map em) = pur ((xs.filter p).map g) := by
    induction xs with
    | nil => rfl
    | cons x xs ih =>
      have h1 := hg x (List.mem_cons_self ..)
      rw [List.map_cons]
      unfold compL
      have h2 : (bnd (ofO (bindT tg (em x) (wipeE ρ tg))) fun ρ' => bnd (bnd (ev Φ C c ρ') asBl) fun k => if k then bnd (ev Φ C elt ρ') fun x => bnd (asOk x) fun y => pur (some y) else pur none) = pur (if p x then some (g x) else none) := by
        rw [← h1]
        simp only [bnd_assoc]
      rw [h2, pur_bnd, ih fun y hy => hg y (List.mem_cons_of_mem _ hy), List.filter_cons]
      cases p x <;> rfl
  rw [key]
  rfl
theorem for_fold_k {Φ : Fun} {C : Nat → Option D} {ρ : Env} {tg : List Nat} {it : Ex} {b : Sx} {β σ : Type} {K : Fl → M β} {R : M β} (ds : List D) (P : σ → Env → Prop) (step : σ → D → σ) (x0 : σ) (h : itr Φ C it ρ = pur ds) (h0 : P x0 ρ)
    (hs : ∀ d ∈ ds, ∀ x ρ, P x ρ → ∃ ρ', (bnd (ofO (bindT tg d ρ)) fun ρ'' => exS Φ C b ρ'') = pur (.nx ρ') ∧ P (step x d) ρ') (hk : ∀ ρ', P (ds.foldl step x0) ρ' → K (.nx ρ') = R) : bnd (exS Φ C (.for_ tg it b) ρ) K = R := by
  rw [ex_for, h, pur_bnd]
  obtain ⟨ρ', e, p⟩ := forL_fold (f := fun d ρ' => bnd (ofO (bindT tg d ρ')) fun ρ'' => exS Φ C b ρ'') hs x0 ρ h0
  rw [e]
  exact hk ρ' p
theorem for_good_k {Φ : Fun} {C : Nat → Option D} {ρ : Env} {tg : List Nat} {it : Ex} {b : Sx} {β : Type} {K : Fl → M β} {R : M β} (ds : List D) (P : Env → Prop) (good : D → Bool) (x : D) (h : itr Φ C it ρ = pur ds) (h0 : P ρ)
    (hs : ∀ d ∈ ds, ∀ ρ, P ρ → if good d then ∃ ρ', (bnd (ofO (bindT tg d ρ)) fun ρ'' => exS Φ C b ρ'') = pur (.nx ρ') ∧ P ρ' else (bnd (ofO (bindT tg d ρ)) fun ρ'' => exS Φ C b ρ'') = pur (.ret x))
    (hk : ds.all good = true → ∀ ρ', P ρ' → K (.nx ρ') = R) (hk2 : ds.all good = false → K (.ret x) = R) : bnd (exS Φ C (.for_ tg it b) ρ) K = R := by
  rw [ex_for, h, pur_bnd]
  have := forL_good (f := fun d ρ' => bnd (ofO (bindT tg d ρ')) fun ρ'' => exS Φ C b ρ'') hs ρ h0
  cases e : ds.all good with
  | true =>
    rw [e] at this
    obtain ⟨ρ', e1, p⟩ := this
    rw [e1]
    exact hk e ρ' p
  | false =>
    rw [e] at this
    have this : forL _ ds ρ = pur (.ret x) := this
    rw [this]
    exact hk2 e
theorem forL_gf {σ : Type} {f : D → Env → M Fl} {P : σ → Env → Prop} {good : D → Bool} {step : σ → D → σ} {r : D} : ∀ {ds : List D}, (∀ d ∈ ds, ∀ x ρ, P x ρ → if good d then ∃ ρ', f d ρ = pur (.nx ρ') ∧ P (step x d) ρ' else f d ρ = pur (.ret r)) → ∀ x ρ, P x ρ →
    if ds.all good then ∃ ρ', forL f ds ρ = pur (.nx ρ') ∧ P (ds.foldl step x) ρ' else forL f ds ρ = pur (.ret r)
  | [], _, x, ρ, h => ⟨ρ, rfl, h⟩
  | d :: ds, hs, x, ρ, h => by
    have h1 := hs d (List.mem_cons_self ..) x ρ h
    have ih := forL_gf (ds := ds) (fun y hy => hs y (List.mem_cons_of_mem _ hy))
    rw [List.all_cons]
    unfold forL
    cases hg : good d with
    | false =>
      rw [hg] at h1
      have h1 : f d ρ = pur (.ret r) := h1
      rw [h1]
      rfl
    | true =>
      rw [hg] at h1
      obtain ⟨ρ', e1, p1⟩ := h1
      rw [e1]
      exact ih _ ρ' p1
theorem for_gf_k {Φ : Fun} {C : Nat → Option D} {ρ : Env} {tg : List Nat} {it : Ex} {b : Sx} {β σ : Type} {K : Fl → M β} {R : M β} (ds : List D) (P : σ → Env → Prop) (good : D → Bool) (step : σ → D → σ) (x0 : σ) (r : D) (h : itr Φ C it ρ = pur ds) (h0 : P x0 ρ)
    (hs : ∀ d ∈ ds, ∀ x ρ, P x ρ → if good d then ∃ ρ', (bnd (ofO (bindT tg d ρ)) fun ρ'' => exS Φ C b ρ'') = pur (.nx ρ') ∧ P (step x d) ρ' else (bnd (ofO (bindT tg d ρ)) fun ρ'' => exS Φ C b ρ'') = pur (.ret r))
    (hk : ds.all good = true → ∀ ρ', P (ds.foldl step x0) ρ' → K (.nx ρ') = R) (hk2 : ds.all good = false → K (.ret r) = R) : bnd (exS Φ C (.for_ tg it b) ρ) K = R := by
  rw [ex_for, h, pur_bnd]
  have := forL_gf (f := fun d ρ' => bnd (ofO (bindT tg d ρ')) fun ρ'' => exS Φ C b ρ'') hs x0 ρ h0
  cases e : ds.all good with
  | true =>
    rw [e] at this
    obtain ⟨ρ', e1, p⟩ := this
    rw [e1]
    exact hk e ρ' p
  | false =>
    rw [e] at this
    have this : forL _ ds ρ = pur (.ret r) := this
    rw [this]
    exact hk2 e
theorem fitL_nil {n : Nat} : D.fitL n [] = true := by unfold D.fitL; rfl
theorem fitL_cons {n : Nat} {d : D} {l : List D} : D.fitL n (d :: l) = (d.fit n && D.fitL n l) := by rw [D.fitL]
theorem eq_ii {i j : Int} : D.eq (.int i) (.int j) = (i == j) := by unfold D.eq; rfl
theorem eq_ss {i j : List Nat} : D.eq (.str i) (.str j) = (i == j) := by unfold D.eq; rfl
theorem eq_bb {i j : Bool} : D.eq (.bl i) (.bl j) = (i == j) := by unfold D.eq; rfl
theorem comp_map_k {Φ : Fun} {C : Nat → Option D} {ρ : Env} {tg : List Nat} {elt it : Ex} {α β : Type} {K : D → M β} {R : M β} (xs : List α) (em g : α → D) (h : itr Φ C it ρ = pur (xs.map em))
    (hg : ∀ x ∈ xs, (bnd (ofO (bindT tg (em x) (wipeE ρ tg))) fun ρ' => bnd (ev Φ C elt ρ') fun x => bnd (asOk x) fun y => pur y) = pur (g x)) (hk : K (.lst (xs.map g)) = R) :
    bnd (ev Φ C (.comp tg .nil elt it) ρ) K = R := by
  rw [ev_comp_map xs em g h hg]
  exact hk
theorem comp_filter_k {Φ : Fun} {C : Nat → Option D} {ρ : Env} {tg : List Nat} {c elt it : Ex} {α β : Type} {K : D → M β} {R : M β} (xs : List α) (em : α → D) (p : α → Bool) (g : α → D) (h : itr Φ C it ρ = pur (xs.map em))
    (hg : ∀ x ∈ xs, (bnd (ofO (bindT tg (em x) (wipeE ρ tg))) fun ρ' => bnd (ev Φ C c ρ') fun b => bnd (asBl b) fun k => if k then bnd (ev Φ C elt ρ') fun x => bnd (asOk x) fun y => pur (some y) else pur none) = pur (if p x then some (g x) else none)) (hk : K (.lst ((xs.filter p).map g)) = R) :
    bnd (ev Φ C (.comp tg (.val c) elt it) ρ) K = R := by
  rw [ev_comp_filter xs em p g h hg]
  exact hk
theorem call_k {β : Type} {m : M D} {K : D → M β} {R : M β} {d : D} (h : m = pur d) (hk : K d = R) : bnd m K = R := by
  rw [h]; exact hk
theorem map_self {α : Type} {l : List α} : l.map (fun x => x) = l := List.map_id' l
theorem fit_non {n : Nat} : D.fit n .non = true := by unfold D.fit; rfl
theorem fit_bl {n : Nat} {b : Bool} : D.fit n (.bl b) = true := by unfold D.fit; rfl
theorem fit_int {n : Nat} {i : Int} : D.fit n (.int i) = true := by unfold D.fit; rfl
theorem fit_str {n : Nat} {s : List Nat} : D.fit n (.str s) = true := by unfold D.fit; rfl
theorem fit_lst {n : Nat} {l : List D} (h : ∀ d ∈ l, d.fit n = true) : D.fit (n + 1) (.lst l) = true := by
  unfold D.fit; exact fitL_iff.mpr h
theorem fit_tup {n : Nat} {l : List D} (h : ∀ d ∈ l, d.fit n = true) : D.fit (n + 1) (.tup l) = true := by
  unfold D.fit; exact fitL_iff.mpr h
/-- plain data: no cells, so deep, tuples and lists so long -/
def sm (m : Nat) : Nat → D → Bool
  | _, .non => true
  | _, .bl _ => true
  | _, .int _ => true
  | _, .str _ => true
  | 0, .tup _ => false
  | n + 1, .tup l => decide (l.length ≤ m) && l.all (sm m n)
  | 0, .lst _ => false
  | n + 1, .lst l => decide (l.length ≤ m) && l.all (sm m n)
  | _, .own _ => false
  | _, .ref _ => false
  | _, .pr _ _ => false
theorem sm_tup {m n : Nat} {l : List D} : sm m (n + 1) (.tup l) = true ↔ l.length ≤ m ∧ ∀ d ∈ l, sm m n d = true := by
  show (decide (l.length ≤ m) && l.all (sm m n)) = true ↔ _
  simp
theorem sm_lst {m n : Nat} {l : List D} : sm m (n + 1) (.lst l) = true ↔ l.length ≤ m ∧ ∀ d ∈ l, sm m n d = true := by
  show (decide (l.length ≤ m) && l.all (sm m n)) = true ↔ _
  simp
theorem sm_ok {m n : Nat} {d : D} (h : sm m n d = true) : asOk d = pur d := by
  cases d with
  | own l => cases n <;> cases h
  | _ => rfl
theorem sm_fit {m : Nat} : ∀ {n : Nat} {d : D}, sm m n d = true → d.fit n = true
  | _, .non, _ => fit_non
  | _, .bl _, _ => fit_bl
  | _, .int _, _ => fit_int
  | _, .str _, _ => fit_str
  | 0, .tup _, h => by cases h
  | n + 1, .tup l, h => fit_tup fun d hd => sm_fit ((sm_tup.mp h).2 d hd)
  | 0, .lst _, h => by cases h
  | n + 1, .lst l, h => fit_lst fun d hd => sm_fit ((sm_lst.mp h).2 d hd)
  | 0, .own _, h => by cases h
  | n + 1, .own _, h => by cases h
  | 0, .ref _, h => by cases h
  | n + 1, .ref _, h => by cases h
  | 0, .pr _ _, h => by cases h
  | n + 1, .pr _ _, h => by cases h
theorem sm_mono {m m' : Nat} (hm : m ≤ m') : ∀ {n n' : Nat} {d : D}, n ≤ n' → sm m n d = true → sm m' n' d = true
  | _, n', .non, _, _ => by cases n' <;> rfl
  | _, n', .bl _, _, _ => by cases n' <;> rfl
  | _, n', .int _, _, _ => by cases n' <;> rfl
  | _, n', .str _, _, _ => by cases n' <;> rfl
  | 0, _, .tup _, _, h => by cases h
  | n + 1, 0, .tup l, hl, _ => absurd hl (by omega)
  | n + 1, n' + 1, .tup l, hl, h => sm_tup.mpr ⟨Nat.le_trans (sm_tup.mp h).1 hm, fun d hd => sm_mono hm (by omega) ((sm_tup.mp h).2 d hd)⟩
  | 0, _, .lst _, _, h => by cases h
  | n + 1, 0, .lst l, hl, _ => absurd hl (by omega)
  | n + 1, n' + 1, .lst l, hl, h => sm_lst.mpr ⟨Nat.le_trans (sm_lst.mp h).1 hm, fun d hd => sm_mono hm (by omega) ((sm_lst.mp h).2 d hd)⟩
  | 0, _, .own _, _, h => by cases h
  | n + 1, _, .own _, _, h => by cases h
  | 0, _, .ref _, _, h => by cases h
  | n + 1, _, .ref _, _, h => by cases h
  | 0, _, .pr _ _, _, h => by cases h
  | n + 1, _, .pr _ _, _, h => by cases h
theorem fm_some {α β : Type} {f : α → β} {l : List α} : (l.filterMap fun x => some (f x)) = l.map f := by
  induction l with
  | nil => rfl
  | cons a l ih => rw [List.filterMap_cons, ih]; rfl
theorem fm_if {α : Type} {p : α → Bool} {l : List α} : (l.filterMap fun x => if p x then some x else none) = l.filter p := by
  induction l with
  | nil => rfl
  | cons a l ih =>
    rw [List.filterMap_cons, ih, List.filter_cons]
    cases p a <;> rfl
theorem blsOf_map {α : Type} {f : α → Bool} {l : List α} : blsOf (l.map fun x => .bl (f x)) = some (l.map f) := by
  induction l with
  | nil => rfl
  | cons a l ih => show (blsOf (l.map fun x => .bl (f x))).map (f a :: ·) = _; rw [ih]; rfl
theorem u_all_map {α : Type} {f : α → Bool} {l : List α} : uop .all (.lst (l.map fun x => .bl (f x))) = some (.bl (l.all f)) := by
  show (blsOf _).map _ = _
  rw [blsOf_map]
  show some (D.bl ((l.map f).all id)) = _
  rw [List.all_map]; rfl
theorem u_any_map {α : Type} {f : α → Bool} {l : List α} : uop .any (.lst (l.map fun x => .bl (f x))) = some (.bl (l.any f)) := by
  show (blsOf _).map _ = _
  rw [blsOf_map]
  show some (D.bl ((l.map f).any id)) = _
  rw [List.any_map]; rfl
theorem eqO_fit {a b : D} (ha : a.fit deep = true) (hb : b.fit deep = true) : eqO a b = some (a.eq b) := by
  unfold eqO; rw [ha, hb]; rfl
theorem eq_lst_nil {l : List D} : D.eq (.lst l) (.lst []) = l.isEmpty := by
  cases l <;> rfl
theorem eq_tup_nil {l : List D} : D.eq (.tup l) (.tup []) = l.isEmpty := by
  cases l <;> rfl
theorem le1 {a b : Nat} : ([a] : List Nat) ≤ [b] ↔ a ≤ b := by simp [List.cons_le_cons_iff]; omega
theorem pyAt_nat {α : Type} {l : List α} {i : Nat} : pyAt l (i : Int) = l[i]? := by
  unfold pyAt pyIx L2.ixN
  rw [if_pos (by omega)]
  by_cases h : i < l.length
  · rw [if_pos (by omega)]
    simp
  · rw [if_neg (by omega), List.getElem?_eq_none (by omega)]
    rfl
theorem pyAt0 {α : Type} {l : List α} : pyAt l 0 = l[0]? := pyAt_nat (i := 0)
theorem pyAt1 {α : Type} {l : List α} : pyAt l 1 = l[1]? := pyAt_nat (i := 1)
theorem pyAt2 {α : Type} {l : List α} : pyAt l 2 = l[2]? := pyAt_nat (i := 2)
theorem pyAt3 {α : Type} {l : List α} : pyAt l 3 = l[3]? := pyAt_nat (i := 3)
theorem pyAt_len {α : Type} {l : List α} {i : Int} {x : α} (h0 : 0 ≤ i) (h : l[i.toNat]? = some x) : pyAt l i = some x := by
  have := pyAt_nat (l := l) (i := i.toNat)
  rw [Int.toNat_of_nonneg h0, h] at this
  exact this

end Ev

namespace K04
open PySem PySem.Spec PyProof.Rows L2 Ev
def top (i : Nat) : Stmt := PySem.Challenge.pw_twohooks_k04_what_habits_make_of_values.main.body.getD i (.Pass ⟨0, 0, 0, 0⟩)
def t0 : Th := ⟨"_law_word", false, [⟨2, [2], [0, 1, 3, 4], none, .inl (.str [115, 105, 100, 101])⟩, ⟨3, [3], [0, 1, 2, 4], none, .inl (.str [102, 105, 101, 108, 100])⟩, ⟨4, [4], [0, 1, 2, 3], none, .inl (.str [118, 97, 108, 117, 101])⟩, ⟨0, [0, 1, 2, 3, 4], [], none, .inl (.str [101, 108, 115, 101])⟩], (.str [102, 105, 110, 101])⟩
def b0 : Sx := (.cons (.ite (.or (.not (.un .isStr (.var 0))) (.not (.ch .le .le (.lit (.int 1)) (.un .len (.var 0)) (.lit (.int 8)))))
(.cons (.ret (.lit (.bl false)))
.nil)
.nil)
(.cons (.ret (.un .all (.comp [1] .nil (.ch .le .le (.lit (.str [97])) (.var 1) (.lit (.str [122]))) (.val (.var 0)))))
.nil))
def f0 : Fd := ⟨"is_label", 1, ["value", "letter"], b0, false⟩
def d0 : He.DefD := ⟨("is_label", none), "is_label", "is_label", defArgs (top 13), defBody (top 13), defScope (top 13), [], []⟩
def b1 : Sx := (.cons (.ret (.un .all (.comp [1] .nil (.bi .lt (.bi .ix (.var 0) (.var 1)) (.bi .ix (.var 0) (.bi .add (.var 1) (.lit (.int 1))))) (.rng1 (.bi .sub (.un .len (.var 0)) (.lit (.int 1)))))))
.nil)
def f1 : Fd := ⟨"rises", 1, ["row", "at"], b1, false⟩
def d1 : He.DefD := ⟨("rises", none), "rises", "rises", defArgs (top 14), defBody (top 14), defScope (top 14), [], []⟩
def b2 : Sx := (.cons (.ite (.or (.not (.un .isTup (.var 0))) (.or (.bi .ne (.un .len (.var 0)) (.lit (.int 2))) (.not (.call 0 (.cons (.bi .ix (.var 0) (.lit (.int 0))) .nil)))))
(.cons (.ret (.lit (.bl false)))
.nil)
.nil)
(.cons (.ite (.or (.not (.un .isTup (.bi .ix (.var 0) (.lit (.int 1))))) (.not (.ch .le .le (.lit (.int 2)) (.un .len (.bi .ix (.var 0) (.lit (.int 1)))) (.lit (.int 4)))))
(.cons (.ret (.lit (.bl false)))
.nil)
.nil)
(.cons (.ret (.and (.un .all (.comp [1] .nil (.call 0 (.cons (.var 1) .nil)) (.val (.bi .ix (.var 0) (.lit (.int 1)))))) (.call 1 (.cons (.bi .ix (.var 0) (.lit (.int 1))) .nil))))
.nil)))
def f2 : Fd := ⟨"is_field", 1, ["value", "one"], b2, false⟩
def d2 : He.DefD := ⟨("is_field", none), "is_field", "is_field", defArgs (top 15), defBody (top 15), defScope (top 15), [], []⟩
def b3 : Sx := (.cons (.ite (.or (.not (.un .isTup (.var 0))) (.or (.not (.ch .le .le (.lit (.int 1)) (.un .len (.var 0)) (.lit (.int 2)))) (.not (.un .all (.comp [3] .nil (.call 2 (.cons (.var 3) .nil)) (.val (.var 0)))))))
(.cons (.ret (.lit (.bl false)))
.nil)
.nil)
(.cons (.set 1 (.lit (.int 1)))
(.cons (.for_ [2] (.val (.var 0))
(.cons (.set 1 (.bi .mul (.var 1) (.un .len (.bi .ix (.var 2) (.lit (.int 1))))))
.nil))
(.cons (.ret (.and (.bi .le (.var 1) (.con 5)) (.call 1 (.cons (.comp [2] .nil (.bi .ix (.var 2) (.lit (.int 0))) (.val (.var 0))) .nil))))
.nil))))
def f3 : Fd := ⟨"are_fields", 1, ["value", "records", "field", "one"], b3, false⟩
def d3 : He.DefD := ⟨("are_fields", none), "are_fields", "are_fields", defArgs (top 16), defBody (top 16), defScope (top 16), [], []⟩
def b4 : Sx := (.cons (.ite (.or (.not (.un .isTup (.var 1))) (.bi .ne (.un .len (.var 1)) (.un .len (.var 0))))
(.cons (.ret (.lit (.bl false)))
.nil)
.nil)
(.cons (.for_ [2, 3] (.zip (.var 0) (.var 1))
(.cons (.ite (.or (.not (.un .isTup (.var 3))) (.bi .ne (.un .len (.var 3)) (.un .len (.bi .ix (.var 2) (.lit (.int 1))))))
(.cons (.ret (.lit (.bl false)))
.nil)
.nil)
(.cons (.ite (.not (.un .all (.comp [4] .nil (.and (.un .isStr (.var 4)) (.bi .inn (.var 4) (.bi .ix (.var 2) (.lit (.int 1))))) (.val (.var 3)))))
(.cons (.ret (.lit (.bl false)))
.nil)
.nil)
.nil)))
(.cons (.ret (.lit (.bl true)))
.nil)))
def f4 : Fd := ⟨"are_habits", 2, ["fields", "value", "field", "row", "one"], b4, false⟩
def d4 : He.DefD := ⟨("are_habits", none), "are_habits", "are_habits", defArgs (top 17), defBody (top 17), defScope (top 17), [], []⟩
def b5 : Sx := (.cons (.ret (.and (.un .isStr (.var 1)) (.bi .inn (.var 1) (.var 0))))
.nil)
def f5 : Fd := ⟨"is_word", 2, ["words", "value"], b5, false⟩
def d5 : He.DefD := ⟨("is_word", none), "is_word", "is_word", defArgs (top 18), defBody (top 18), defScope (top 18), [], []⟩
def b6 : Sx := (.cons (.ite (.or (.not (.un .isTup (.var 1))) (.or (.bi .ne (.un .len (.var 1)) (.lit (.int 4))) (.not (.call 4 (.cons (.var 0) (.cons (.bi .ix (.var 1) (.lit (.int 0))) .nil))))))
(.cons (.ret (.lit (.bl false)))
.nil)
.nil)
(.cons (.ret (.and (.call 5 (.cons (.con 1) (.cons (.bi .ix (.var 1) (.lit (.int 1))) .nil))) (.and (.call 5 (.cons (.con 2) (.cons (.bi .ix (.var 1) (.lit (.int 2))) .nil))) (.un .isBl (.bi .ix (.var 1) (.lit (.int 3)))))))
.nil))
def f6 : Fd := ⟨"is_side", 2, ["fields", "value"], b6, false⟩
def d6 : He.DefD := ⟨("is_side", none), "is_side", "is_side", defArgs (top 19), defBody (top 19), defScope (top 19), [], []⟩
def b7 : Sx := (.cons (.ite (.or (.not (.un .isTup (.var 0))) (.or (.bi .ne (.un .len (.var 0)) (.lit (.int 4))) (.not (.call 5 (.cons (.con 3) (.cons (.bi .ix (.var 0) (.lit (.int 0))) .nil))))))
(.cons (.ret (.lit (.bl false)))
.nil)
.nil)
(.cons (.ret (.and (.call 5 (.cons (.con 4) (.cons (.bi .ix (.var 0) (.lit (.int 1))) .nil))) (.and (.un .isBl (.bi .ix (.var 0) (.lit (.int 2)))) (.un .isBl (.bi .ix (.var 0) (.lit (.int 3)))))))
.nil))
def f7 : Fd := ⟨"is_way", 1, ["value"], b7, false⟩
def d7 : He.DefD := ⟨("is_way", none), "is_way", "is_way", defArgs (top 20), defBody (top 20), defScope (top 20), [], []⟩
def b8 : Sx := (.cons (.ite (.or (.not (.un .isTup (.var 0))) (.or (.bi .ne (.un .len (.var 0)) (.lit (.int 4))) (.or (.not (.call 3 (.cons (.bi .ix (.var 0) (.lit (.int 0))) .nil))) (.not (.call 7 (.cons (.bi .ix (.var 0) (.lit (.int 3))) .nil))))))
(.cons (.ret (.lit (.bl false)))
.nil)
.nil)
(.cons (.ret (.and (.call 6 (.cons (.bi .ix (.var 0) (.lit (.int 0))) (.cons (.bi .ix (.var 0) (.lit (.int 1))) .nil))) (.call 6 (.cons (.bi .ix (.var 0) (.lit (.int 0))) (.cons (.bi .ix (.var 0) (.lit (.int 2))) .nil)))))
.nil))
def f8 : Fd := ⟨"is_setup", 1, ["value"], b8, false⟩
def d8 : He.DefD := ⟨("is_setup", none), "is_setup", "is_setup", defArgs (top 21), defBody (top 21), defScope (top 21), [], []⟩
def b9 : Sx := (.cons (.ite (.not (.call 8 (.cons (.var 0) .nil)))
(.cons (.rse 1)
.nil)
.nil)
.nil)
def f9 : Fd := ⟨"need_setup", 1, ["setup"], b9, false⟩
def d9 : He.DefD := ⟨("need_setup", none), "need_setup", "need_setup", defArgs (top 22), defBody (top 22), defScope (top 22), [], []⟩
def b10 : Sx := (.cons (.ite (.not (.call 5 (.cons (.con 0) (.cons (.var 0) .nil))))
(.cons (.rse 2)
.nil)
.nil)
.nil)
def f10 : Fd := ⟨"need_side", 1, ["side"], b10, false⟩
def d10 : He.DefD := ⟨("need_side", none), "need_side", "need_side", defArgs (top 23), defBody (top 23), defScope (top 23), [], []⟩
def b11 : Sx := (.cons (.set 2 (.comp [3] .nil (.bi .ix (.var 3) (.lit (.int 0))) (.val (.bi .ix (.var 0) (.lit (.int 0))))))
(.cons (.ite (.not (.call 5 (.cons (.var 2) (.cons (.var 1) .nil))))
(.cons (.rse 3)
.nil)
.nil)
(.cons (.ret (.idx false (.var 2) (.var 1)))
.nil)))
def f11 : Fd := ⟨"place_of", 2, ["setup", "field", "names", "one"], b11, false⟩
def d11 : He.DefD := ⟨("place_of", none), "place_of", "place_of", defArgs (top 24), defBody (top 24), defScope (top 24), [], []⟩
def b12 : Sx := (.cons (.ite (.not (.call 5 (.cons (.bi .ix (.bi .ix (.bi .ix (.var 0) (.lit (.int 0))) (.var 1)) (.lit (.int 1))) (.cons (.var 2) .nil))))
(.cons (.rse 4)
.nil)
.nil)
.nil)
def f12 : Fd := ⟨"need_value", 3, ["setup", "at", "value"], b12, false⟩
def d12 : He.DefD := ⟨("need_value", none), "need_value", "need_value", defArgs (top 25), defBody (top 25), defScope (top 25), [], []⟩
def b13 : Sx := (.cons (.ret (.ite (.bi .eq (.var 0) (.lit (.str [108, 101, 102, 116]))) (.lit (.str [114, 105, 103, 104, 116])) (.lit (.str [108, 101, 102, 116]))))
.nil)
def f13 : Fd := ⟨"other_side", 1, ["side"], b13, false⟩
def d13 : He.DefD := ⟨("other_side", none), "other_side", "other_side", defArgs (top 26), defBody (top 26), defScope (top 26), [], []⟩
def b14 : Sx := (.cons (.ret (.bi .ix (.var 0) (.bi .add (.lit (.int 1)) (.idx true (.con 0) (.var 1)))))
.nil)
def f14 : Fd := ⟨"part_of", 2, ["setup", "side"], b14, false⟩
def d14 : He.DefD := ⟨("part_of", none), "part_of", "part_of", defArgs (top 27), defBody (top 27), defScope (top 27), [], []⟩
def b15 : Sx := (.cons (.ret (.bi .ix (.bi .ix (.bi .ix (.call 14 (.cons (.var 0) (.cons (.var 1) .nil))) (.lit (.int 0))) (.var 2)) (.idx true (.bi .ix (.bi .ix (.bi .ix (.var 0) (.lit (.int 0))) (.var 2)) (.lit (.int 1))) (.var 3))))
.nil)
def f15 : Fd := ⟨"stored", 4, ["setup", "side", "at", "value"], b15, false⟩
def d15 : He.DefD := ⟨("stored", none), "stored", "stored", defArgs (top 28), defBody (top 28), defScope (top 28), [], []⟩
def b16 : Sx := (.cons (.drop (.call 9 (.cons (.var 0) .nil)))
(.cons (.drop (.call 10 (.cons (.var 1) .nil)))
(.cons (.set 4 (.call 11 (.cons (.var 0) (.cons (.var 2) .nil))))
(.cons (.drop (.call 12 (.cons (.var 0) (.cons (.var 4) (.cons (.var 3) .nil)))))
(.cons (.paro 6 7 false (.lst .nil) (.tup (.cons (.var 1) (.cons (.call 15 (.cons (.var 0) (.cons (.var 1) (.cons (.var 4) (.cons (.var 3) .nil))))) .nil))))
(.cons (.whl 20 (.bi .nin (.var 7) (.var 6))
(.cons (.app 6 (.var 7))
(.cons (.set 8 (.call 13 (.cons (.bi .ix (.var 7) (.lit (.int 0))) .nil)))
(.cons (.set 7 (.tup (.cons (.var 8) (.cons (.call 15 (.cons (.var 0) (.cons (.var 8) (.cons (.var 4) (.cons (.bi .ix (.var 7) (.lit (.int 1))) .nil))))) .nil))))
.nil))))
(.cons (.set 5 (.idx false (.var 6) (.var 7)))
(.cons (.ret (.tup (.cons (.comp [9] .nil (.bi .ix (.var 9) (.lit (.int 1))) (.val (.cut (.var 6) .nil (.val (.var 5))))) (.cons (.comp [9] .nil (.bi .ix (.var 9) (.lit (.int 1))) (.val (.cut (.var 6) (.val (.var 5)) .nil))) .nil))))
.nil))))))))
def f16 : Fd := ⟨"echoes", 4, ["setup", "side", "field", "value", "at", "first", "met", "here", "there", "one"], b16, false⟩
def d16 : He.DefD := ⟨("echoes", none), "echoes", "echoes", defArgs (top 30), defBody (top 30), defScope (top 30), [], []⟩
def b17 : Sx := (.cons (.drop (.call 9 (.cons (.var 0) .nil)))
(.cons (.own 1 (.lst .nil))
(.cons (.for_ [2] (.val (.con 0))
(.cons (.for_ [3, 4] (.enu (.bi .ix (.var 0) (.lit (.int 0))))
(.cons (.for_ [5] (.val (.bi .ix (.var 4) (.lit (.int 1))))
(.cons (.set 6 (.call 15 (.cons (.var 0) (.cons (.var 2) (.cons (.var 3) (.cons (.var 5) .nil))))))
(.cons (.set 7 (.call 15 (.cons (.var 0) (.cons (.call 13 (.cons (.var 2) .nil)) (.cons (.var 3) (.cons (.var 6) .nil))))))
(.cons (.ite (.bi .ne (.call 15 (.cons (.var 0) (.cons (.var 2) (.cons (.var 3) (.cons (.var 7) .nil))))) (.var 6))
(.cons (.app 1 (.tup (.cons (.var 2) (.cons (.bi .ix (.var 4) (.lit (.int 0))) (.cons (.var 5) .nil)))))
.nil)
.nil)
.nil))))
.nil))
.nil))
(.cons (.frz 1)
(.cons (.ret (.var 1))
.nil)))))
def f17 : Fd := ⟨"unsuited", 1, ["setup", "found", "side", "at", "field", "value", "once", "there"], b17, false⟩
def d17 : He.DefD := ⟨("unsuited", none), "unsuited", "unsuited", defArgs (top 31), defBody (top 31), defScope (top 31), [], []⟩
def b18 : Sx := (.cons (.ret (.bi .eq (.call 17 (.cons (.var 0) .nil)) (.lst .nil)))
.nil)
def f18 : Fd := ⟨"suits", 1, ["setup"], b18, false⟩
def d18 : He.DefD := ⟨("suits", none), "suits", "suits", defArgs (top 32), defBody (top 32), defScope (top 32), [], []⟩
def b19 : Sx := (.cons (.ret (.cel (.lst (.cons (.ite (.bi .ge (.var 0) (.bi .pow (.lit (.int 10)) (.lit (.int 18)))) (.var 0) (.lit (.int 0))) (.cons (.bi .add (.bi .mod (.un .int (.bi .add (.var 0) (.bi .mul (.lit (.int 7)) (.var 1)))) (.lit (.int 1000000007))) (.lit (.int 1))) .nil)))))
.nil)
def f19 : Fd := ⟨"_law_hand", 2, ["cell", "salt"], b19, false⟩
def d19 : He.DefD := ⟨("_law_hand", none), "_law_hand", "_law_hand", defArgs (top 34), defBody (top 34), defScope (top 34), [], []⟩
def b20 : Sx := (.cons (.ite (.bi .gt (.at0 (.var 0) (.lit (.int 0))) (.lit (.int 0)))
(.cons (.set 2 (.bi .mod (.un .int (.at0 (.var 0) (.lit (.int 0)))) (.var 1)))
(.cons (.put (.var 0) (.lit (.int 0)) (.bi .fdiv (.at0 (.var 0) (.lit (.int 0))) (.var 1)))
(.cons (.ret (.var 2))
.nil)))
.nil)
(.cons (.put (.var 0) (.lit (.int 1)) (.bi .mod (.un .int (.bi .add (.bi .mul (.at0 (.var 0) (.lit (.int 1))) (.lit (.int 69069))) (.lit (.int 12347)))) (.lit (.int 4294967291))))
(.cons (.ret (.bi .mod (.un .int (.bi .fdiv (.bi .mod (.un .int (.bi .mul (.at0 (.var 0) (.lit (.int 1))) (.at0 (.var 0) (.lit (.int 1))))) (.lit (.int 4294967279))) (.lit (.int 4099)))) (.var 1)))
.nil)))
def f20 : Fd := ⟨"_law_of", 2, ["hand", "many", "got"], b20, false⟩
def d20 : He.DefD := ⟨("_law_of", none), "_law_of", "_law_of", defArgs (top 35), defBody (top 35), defScope (top 35), [], []⟩
def b21 : Sx := (.cons (.ret (.bi .ix (.var 1) (.call 20 (.cons (.var 0) (.cons (.un .len (.var 1)) .nil)))))
.nil)
def f21 : Fd := ⟨"_law_any", 2, ["hand", "some"], b21, false⟩
def d21 : He.DefD := ⟨("_law_any", none), "_law_any", "_law_any", defArgs (top 36), defBody (top 36), defScope (top 36), [], []⟩
def b22 : Sx := (.cons (.set 2 (.tup .nil))
(.cons (.for_ [4, 5] (.val (.var 1))
(.cons (.set 6 (.tup .nil))
(.cons (.for_ [7] (.val (.var 5))
(.cons (.set 6 (.bi .add (.var 6) (.tup (.cons (.ite (.bi .gt (.call 20 (.cons (.var 0) (.cons (.lit (.int 3)) .nil))) (.lit (.int 0))) (.var 7) (.call 21 (.cons (.var 0) (.cons (.var 5) .nil)))) .nil))))
.nil))
(.cons (.set 2 (.bi .add (.var 2) (.tup (.cons (.var 6) .nil))))
.nil))))
(.cons (.set 3 (.call 21 (.cons (.var 0) (.cons (.lst (.cons (.lit (.str [99, 104, 97, 110, 103, 101, 100])) (.cons (.lit (.str [99, 104, 97, 110, 103, 101, 100])) (.cons (.lit (.str [97, 108, 119, 97, 121, 115])) (.cons (.lit (.str [110, 101, 118, 101, 114])) .nil))))) .nil))))
(.cons (.ret (.tup (.cons (.var 2) (.cons (.call 21 (.cons (.var 0) (.cons (.lst (.cons (.lit (.str [97, 108, 119, 97, 121, 115])) (.cons (.lit (.str [99, 104, 97, 110, 103, 101, 100])) .nil))) .nil))) (.cons (.var 3) (.cons (.bi .eq (.call 20 (.cons (.var 0) (.cons (.lit (.int 4)) .nil))) (.lit (.int 0))) .nil))))))
.nil))))
def f22 : Fd := ⟨"_law_side", 2, ["hand", "fields", "habits", "answers", "name", "values", "row", "value"], b22, false⟩
def d22 : He.DefD := ⟨("_law_side", none), "_law_side", "_law_side", defArgs (top 37), defBody (top 37), defScope (top 37), [], []⟩
def b23 : Sx := (.cons (.set 2 (.lst (.cons (.tup (.cons (.lit (.str [108, 97, 109, 112])) (.cons (.tup (.cons (.lit (.str [111, 102, 102])) (.cons (.lit (.str [111, 110])) .nil))) .nil))) (.cons (.tup (.cons (.lit (.str [115, 105, 122, 101])) (.cons (.tup (.cons (.lit (.str [108])) (.cons (.lit (.str [109])) (.cons (.lit (.str [115])) .nil)))) .nil))) .nil))))
(.cons (.set 3 (.tup (.cons (.call 21 (.cons (.var 0) (.cons (.var 2) .nil))) .nil)))
(.cons (.ite (.and (.var 1) (.bi .eq (.call 20 (.cons (.var 0) (.cons (.lit (.int 3)) .nil))) (.lit (.int 0))))
(.cons (.set 3 (.tup (.cons (.tup (.cons (.lit (.str [97])) (.cons (.tup (.cons (.lit (.str [110])) (.cons (.lit (.str [121])) .nil))) .nil))) (.cons (.call 21 (.cons (.var 0) (.cons (.var 2) .nil))) .nil))))
.nil)
.nil)
(.cons (.par [6, 7] (.cons (.call 22 (.cons (.var 0) (.cons (.var 3) .nil))) (.cons (.call 22 (.cons (.var 0) (.cons (.var 3) .nil))) .nil)))
(.cons (.set 4 (.call 21 (.cons (.var 0) (.cons (.lst (.cons (.lit (.str [102, 105, 101, 108, 100])) (.cons (.lit (.str [119, 104, 111, 108, 101])) .nil))) .nil))))
(.cons (.set 5 (.tup (.cons (.var 4) (.cons (.call 21 (.cons (.var 0) (.cons (.lst (.cons (.lit (.str [99, 111, 112, 121])) (.cons (.lit (.str [99, 111, 112, 121])) (.cons (.lit (.str [112, 105, 110, 103])) .nil)))) .nil))) .nil))))
(.cons (.ret (.tup (.cons (.var 3) (.cons (.var 6) (.cons (.var 7) (.cons (.bi .add (.var 5) (.tup (.cons (.bi .eq (.call 20 (.cons (.var 0) (.cons (.lit (.int 4)) .nil))) (.lit (.int 0))) (.cons (.bi .gt (.call 20 (.cons (.var 0) (.cons (.lit (.int 3)) .nil))) (.lit (.int 0))) .nil)))) .nil))))))
.nil)))))))
def f23 : Fd := ⟨"_law_setup", 2, ["hand", "large", "some", "fields", "scope", "way", "left", "right"], b23, false⟩
def d23 : He.DefD := ⟨("_law_setup", none), "_law_setup", "_law_setup", defArgs (top 38), defBody (top 38), defScope (top 38), [], []⟩
def b24 : Sx := (.cons (.set 4 (.ite (.bi .eq (.var 1) (.lit (.str [108, 101, 102, 116]))) (.bi .ix (.var 0) (.lit (.int 1))) (.bi .ix (.var 0) (.lit (.int 2)))))
(.cons (.set 5 (.bi .ix (.bi .ix (.bi .ix (.var 0) (.lit (.int 0))) (.var 2)) (.lit (.int 1))))
(.cons (.ret (.bi .ix (.comp [6, 7] (.val (.bi .eq (.var 6) (.var 3))) (.var 7) (.zip (.var 5) (.bi .ix (.bi .ix (.var 4) (.lit (.int 0))) (.var 2)))) (.lit (.int 0))))
.nil)))
def f24 : Fd := ⟨"_law_kept", 4, ["setup", "side", "at", "value", "part", "values", "one", "row"], b24, false⟩
def d24 : He.DefD := ⟨("_law_kept", none), "_law_kept", "_law_kept", defArgs (top 39), defBody (top 39), defScope (top 39), [], []⟩
def b25 : Sx := (.cons (.ret (.ite (.bi .eq (.var 0) (.lit (.str [114, 105, 103, 104, 116]))) (.lit (.str [108, 101, 102, 116])) (.lit (.str [114, 105, 103, 104, 116]))))
.nil)
def f25 : Fd := ⟨"_law_across", 1, ["side"], b25, false⟩
def d25 : He.DefD := ⟨("_law_across", none), "_law_across", "_law_across", defArgs (top 40), defBody (top 40), defScope (top 40), [], []⟩
def b26 : Sx := (.cons (.paro 5 6 false (.lst .nil) (.call 24 (.cons (.var 0) (.cons (.var 1) (.cons (.var 2) (.cons (.var 3) .nil))))))
(.cons (.whl 20 (.bi .nin (.tup (.cons (.var 1) (.cons (.var 6) .nil))) (.var 5))
(.cons (.app 5 (.tup (.cons (.var 1) (.cons (.var 6) .nil))))
(.cons (.set 1 (.call 25 (.cons (.var 1) .nil)))
(.cons (.set 6 (.call 24 (.cons (.var 0) (.cons (.var 1) (.cons (.var 2) (.cons (.var 6) .nil))))))
.nil))))
(.cons (.set 4 (.idx false (.var 5) (.tup (.cons (.var 1) (.cons (.var 6) .nil)))))
(.cons (.ret (.tup (.cons (.comp [7] .nil (.bi .ix (.var 7) (.lit (.int 1))) (.val (.cut (.var 5) .nil (.val (.var 4))))) (.cons (.comp [7] .nil (.bi .ix (.var 7) (.lit (.int 1))) (.val (.cut (.var 5) (.val (.var 4)) .nil))) .nil))))
.nil))))
def f26 : Fd := ⟨"_law_echoes", 4, ["setup", "side", "at", "value", "place", "rows", "kept", "row"], b26, false⟩
def d26 : He.DefD := ⟨("_law_echoes", none), "_law_echoes", "_law_echoes", defArgs (top 41), defBody (top 41), defScope (top 41), [], []⟩
def b27 : Sx := (.cons (.for_ [1] (.val (.cut (.bi .add (.lst (.cons (.lit (.int 0)) .nil)) (.var 0)) .nil (.val (.lit (.int 10)))))
(.cons (.set 2 (.call 19 (.cons (.var 1) (.cons (.lit (.int 21)) .nil))))
(.cons (.unp [6, 7] (.tup (.cons (.call 23 (.cons (.var 2) (.cons (.lit (.bl true)) .nil))) (.cons (.lst .nil) .nil))))
(.cons (.for_ [3] (.val (.tup (.cons (.lit (.str [108, 101, 102, 116])) (.cons (.lit (.str [114, 105, 103, 104, 116])) .nil))))
(.cons (.for_ [8] (.rng1 (.un .len (.bi .ix (.var 6) (.lit (.int 0)))))
(.cons (.unp [9, 10] (.bi .ix (.bi .ix (.var 6) (.lit (.int 0))) (.var 8)))
(.cons (.for_ [11] (.val (.var 10))
(.cons (.ite (.bi .ne (.call 16 (.cons (.var 6) (.cons (.var 3) (.cons (.var 9) (.cons (.var 11) .nil))))) (.call 26 (.cons (.var 6) (.cons (.var 3) (.cons (.var 8) (.cons (.var 11) .nil))))))
(.cons (.ret (.lit (.bl false)))
.nil)
.nil)
(.cons (.set 12 (.call 24 (.cons (.var 6) (.cons (.var 3) (.cons (.var 8) (.cons (.var 11) .nil))))))
(.cons (.set 13 (.call 24 (.cons (.var 6) (.cons (.call 25 (.cons (.var 3) .nil)) (.cons (.var 8) (.cons (.var 12) .nil))))))
(.cons (.set 7 (.bi .add (.var 7) (.bi .mul (.lst (.cons (.tup (.cons (.var 3) (.cons (.var 9) (.cons (.var 11) .nil)))) .nil)) (.un .int (.bi .ne (.call 24 (.cons (.var 6) (.cons (.var 3) (.cons (.var 8) (.cons (.var 13) .nil))))) (.var 12))))))
.nil)))))
.nil)))
.nil))
(.cons (.set 4 (.call 17 (.cons (.var 6) .nil)))
(.cons (.ite (.or (.bi .ne (.var 4) (.var 7)) (.or (.not (.un .isLst (.var 4))) (.bi .ne (.call 18 (.cons (.var 6) .nil)) (.bi .eq (.var 7) (.lst .nil)))))
(.cons (.ret (.lit (.bl false)))
.nil)
.nil)
(.cons (.unp [9, 10] (.bi .ix (.bi .ix (.var 6) (.lit (.int 0))) (.lit (.int 0))))
(.cons (.for_ [5] (.val (.tup (.cons (.lit .non) (.cons (.lit (.str [76, 101, 102, 116])) (.cons (.lit (.int 0)) (.cons (.tup (.cons (.lit (.str [108, 101, 102, 116])) .nil)) (.cons (.lit (.str [])) .nil)))))))
(.cons (.ite (.bi .ne (.lam t0 (.call 16 (.cons (.var 6) (.cons (.var 5) (.cons (.lit .non) (.cons (.lit .non) .nil)))))) (.lit (.str [115, 105, 100, 101])))
(.cons (.ret (.lit (.bl false)))
.nil)
.nil)
(.cons (.ite (.bi .ne (.lam t0 (.call 16 (.cons (.var 6) (.cons (.lit (.str [108, 101, 102, 116])) (.cons (.var 5) (.cons (.lit .non) .nil)))))) (.lit (.str [102, 105, 101, 108, 100])))
(.cons (.ret (.lit (.bl false)))
.nil)
.nil)
(.cons (.ite (.bi .ne (.lam t0 (.call 16 (.cons (.var 6) (.cons (.lit (.str [114, 105, 103, 104, 116])) (.cons (.var 9) (.cons (.var 5) .nil)))))) (.lit (.str [118, 97, 108, 117, 101])))
(.cons (.ret (.lit (.bl false)))
.nil)
.nil)
.nil))))
.nil))))))))
(.cons (.ret (.lit (.bl true)))
.nil))
def f27 : Fd := ⟨"law", 1, ["script", "cell", "hand", "side", "found", "odd", "setup", "due", "at", "name", "values", "value", "once", "there"], b27, true⟩
def d27 : He.DefD := ⟨("law", none), "law", "law", defArgs (top 43), defBody (top 43), defScope (top 43), [], []⟩
def e0 : He.DefD := ⟨("_law_word", none), "_law_word", "_law_word", defArgs (top 42), defBody (top 42), defScope (top 42), [], []⟩
def T : Tb := ⟨[f0, f1, f2, f3, f4, f5, f6, f7, f8, f9, f10, f11, f12, f13, f14, f15, f16, f17, f18, f19, f20, f21, f22, f23, f24, f25, f26, f27], [("SIDES", (.tup [(.str [108, 101, 102, 116]), (.str [114, 105, 103, 104, 116])])), ("TELLS", (.tup [(.str [97, 108, 119, 97, 121, 115]), (.str [99, 104, 97, 110, 103, 101, 100])])), ("ANSWERS", (.tup [(.str [97, 108, 119, 97, 121, 115]), (.str [99, 104, 97, 110, 103, 101, 100]), (.str [110, 101, 118, 101, 114])])), ("SCOPES", (.tup [(.str [102, 105, 101, 108, 100]), (.str [119, 104, 111, 108, 101])])), ("KINDS", (.tup [(.str [99, 111, 112, 121]), (.str [112, 105, 110, 103])])), ("MOST_RECORDS", (.int 6))], ["all", "bool", "enumerate", "int", "isinstance", "len", "list", "range", "str", "tuple", "zip"], [⟨"HookError", none, [0]⟩, ⟨"InvalidSetup", none, [1, 0]⟩, ⟨"InvalidSide", none, [2, 0]⟩, ⟨"InvalidField", none, [3, 0]⟩, ⟨"InvalidValue", none, [4, 0]⟩], [t0]⟩
def fn : List He.DefD := [d0, d1, d2, d3, d4, d5, d6, d7, d8, d9, d10, d11, d12, d13, d14, d15, d16, d17, d18, d19, d20, d21, d22, d23, d24, d25, d26, d27, e0]
section
variable {K : PySem.W.Frag} {h : Heap} {mg : Str → Option Value}
theorem at0 (X : K.In h) (G : h.Ns mainGlobals mg) (c : SaysX T fn K) : ∃ f fdt ps, FnAt T K mg f0 f fdt ps := by
  obtain ⟨fdt, F⟩ := c.d.def_ 0 (d := d0) rfl
  exact ⟨_, fdt, ["value"], c.glo X G (i := 0) (fd := f0) rfl, F.bindsN fun _ _ _ _ _ _ us hl => match us, hl with | [_], _ => rfl, rfl, ⟨_, _, _, _, F, ⟨rfl, rfl, rfl, by decide +kernel, rfl, by decide +kernel, by decide +kernel⟩, by decide +kernel⟩, fun z => by cases z⟩
theorem at1 (X : K.In h) (G : h.Ns mainGlobals mg) (c : SaysX T fn K) : ∃ f fdt ps, FnAt T K mg f1 f fdt ps := by
  obtain ⟨fdt, F⟩ := c.d.def_ 1 (d := d1) rfl
  exact ⟨_, fdt, ["row"], c.glo X G (i := 1) (fd := f1) rfl, F.bindsN fun _ _ _ _ _ _ us hl => match us, hl with | [_], _ => rfl, rfl, ⟨_, _, _, _, F, ⟨rfl, rfl, rfl, by decide +kernel, rfl, by decide +kernel, by decide +kernel⟩, by decide +kernel⟩, fun z => by cases z⟩
theorem at2 (X : K.In h) (G : h.Ns mainGlobals mg) (c : SaysX T fn K) : ∃ f fdt ps, FnAt T K mg f2 f fdt ps := by
  obtain ⟨fdt, F⟩ := c.d.def_ 2 (d := d2) rfl
  exact ⟨_, fdt, ["value"], c.glo X G (i := 2) (fd := f2) rfl, F.bindsN fun _ _ _ _ _ _ us hl => match us, hl with | [_], _ => rfl, rfl, ⟨_, _, _, _, F, ⟨rfl, rfl, rfl, by decide +kernel, rfl, by decide +kernel, by decide +kernel⟩, by decide +kernel⟩, fun z => by cases z⟩
theorem at3 (X : K.In h) (G : h.Ns mainGlobals mg) (c : SaysX T fn K) : ∃ f fdt ps, FnAt T K mg f3 f fdt ps := by
  obtain ⟨fdt, F⟩ := c.d.def_ 3 (d := d3) rfl
  exact ⟨_, fdt, ["value"], c.glo X G (i := 3) (fd := f3) rfl, F.bindsN fun _ _ _ _ _ _ us hl => match us, hl with | [_], _ => rfl, rfl, ⟨_, _, _, _, F, ⟨rfl, rfl, rfl, by decide +kernel, rfl, by decide +kernel, by decide +kernel⟩, by decide +kernel⟩, fun z => by cases z⟩
theorem at4 (X : K.In h) (G : h.Ns mainGlobals mg) (c : SaysX T fn K) : ∃ f fdt ps, FnAt T K mg f4 f fdt ps := by
  obtain ⟨fdt, F⟩ := c.d.def_ 4 (d := d4) rfl
  exact ⟨_, fdt, ["fields", "value"], c.glo X G (i := 4) (fd := f4) rfl, F.bindsN fun _ _ _ _ _ _ us hl => match us, hl with | [_, _], _ => rfl, rfl, ⟨_, _, _, _, F, ⟨rfl, rfl, rfl, by decide +kernel, rfl, by decide +kernel, by decide +kernel⟩, by decide +kernel⟩, fun z => by cases z⟩
theorem at5 (X : K.In h) (G : h.Ns mainGlobals mg) (c : SaysX T fn K) : ∃ f fdt ps, FnAt T K mg f5 f fdt ps := by
  obtain ⟨fdt, F⟩ := c.d.def_ 5 (d := d5) rfl
  exact ⟨_, fdt, ["words", "value"], c.glo X G (i := 5) (fd := f5) rfl, F.bindsN fun _ _ _ _ _ _ us hl => match us, hl with | [_, _], _ => rfl, rfl, ⟨_, _, _, _, F, ⟨rfl, rfl, rfl, by decide +kernel, rfl, by decide +kernel, by decide +kernel⟩, by decide +kernel⟩, fun z => by cases z⟩
theorem at6 (X : K.In h) (G : h.Ns mainGlobals mg) (c : SaysX T fn K) : ∃ f fdt ps, FnAt T K mg f6 f fdt ps := by
  obtain ⟨fdt, F⟩ := c.d.def_ 6 (d := d6) rfl
  exact ⟨_, fdt, ["fields", "value"], c.glo X G (i := 6) (fd := f6) rfl, F.bindsN fun _ _ _ _ _ _ us hl => match us, hl with | [_, _], _ => rfl, rfl, ⟨_, _, _, _, F, ⟨rfl, rfl, rfl, by decide +kernel, rfl, by decide +kernel, by decide +kernel⟩, by decide +kernel⟩, fun z => by cases z⟩
theorem at7 (X : K.In h) (G : h.Ns mainGlobals mg) (c : SaysX T fn K) : ∃ f fdt ps, FnAt T K mg f7 f fdt ps := by
  obtain ⟨fdt, F⟩ := c.d.def_ 7 (d := d7) rfl
  exact ⟨_, fdt, ["value"], c.glo X G (i := 7) (fd := f7) rfl, F.bindsN fun _ _ _ _ _ _ us hl => match us, hl with | [_], _ => rfl, rfl, ⟨_, _, _, _, F, ⟨rfl, rfl, rfl, by decide +kernel, rfl, by decide +kernel, by decide +kernel⟩, by decide +kernel⟩, fun z => by cases z⟩
theorem at8 (X : K.In h) (G : h.Ns mainGlobals mg) (c : SaysX T fn K) : ∃ f fdt ps, FnAt T K mg f8 f fdt ps := by
  obtain ⟨fdt, F⟩ := c.d.def_ 8 (d := d8) rfl
  exact ⟨_, fdt, ["value"], c.glo X G (i := 8) (fd := f8) rfl, F.bindsN fun _ _ _ _ _ _ us hl => match us, hl with | [_], _ => rfl, rfl, ⟨_, _, _, _, F, ⟨rfl, rfl, rfl, by decide +kernel, rfl, by decide +kernel, by decide +kernel⟩, by decide +kernel⟩, fun z => by cases z⟩
theorem at9 (X : K.In h) (G : h.Ns mainGlobals mg) (c : SaysX T fn K) : ∃ f fdt ps, FnAt T K mg f9 f fdt ps := by
  obtain ⟨fdt, F⟩ := c.d.def_ 9 (d := d9) rfl
  exact ⟨_, fdt, ["setup"], c.glo X G (i := 9) (fd := f9) rfl, F.bindsN fun _ _ _ _ _ _ us hl => match us, hl with | [_], _ => rfl, rfl, ⟨_, _, _, _, F, ⟨rfl, rfl, rfl, by decide +kernel, rfl, by decide +kernel, by decide +kernel⟩, by decide +kernel⟩, fun z => by cases z⟩
theorem at10 (X : K.In h) (G : h.Ns mainGlobals mg) (c : SaysX T fn K) : ∃ f fdt ps, FnAt T K mg f10 f fdt ps := by
  obtain ⟨fdt, F⟩ := c.d.def_ 10 (d := d10) rfl
  exact ⟨_, fdt, ["side"], c.glo X G (i := 10) (fd := f10) rfl, F.bindsN fun _ _ _ _ _ _ us hl => match us, hl with | [_], _ => rfl, rfl, ⟨_, _, _, _, F, ⟨rfl, rfl, rfl, by decide +kernel, rfl, by decide +kernel, by decide +kernel⟩, by decide +kernel⟩, fun z => by cases z⟩
theorem at11 (X : K.In h) (G : h.Ns mainGlobals mg) (c : SaysX T fn K) : ∃ f fdt ps, FnAt T K mg f11 f fdt ps := by
  obtain ⟨fdt, F⟩ := c.d.def_ 11 (d := d11) rfl
  exact ⟨_, fdt, ["setup", "field"], c.glo X G (i := 11) (fd := f11) rfl, F.bindsN fun _ _ _ _ _ _ us hl => match us, hl with | [_, _], _ => rfl, rfl, ⟨_, _, _, _, F, ⟨rfl, rfl, rfl, by decide +kernel, rfl, by decide +kernel, by decide +kernel⟩, by decide +kernel⟩, fun z => by cases z⟩
theorem at12 (X : K.In h) (G : h.Ns mainGlobals mg) (c : SaysX T fn K) : ∃ f fdt ps, FnAt T K mg f12 f fdt ps := by
  obtain ⟨fdt, F⟩ := c.d.def_ 12 (d := d12) rfl
  exact ⟨_, fdt, ["setup", "at", "value"], c.glo X G (i := 12) (fd := f12) rfl, F.bindsN fun _ _ _ _ _ _ us hl => match us, hl with | [_, _, _], _ => rfl, rfl, ⟨_, _, _, _, F, ⟨rfl, rfl, rfl, by decide +kernel, rfl, by decide +kernel, by decide +kernel⟩, by decide +kernel⟩, fun z => by cases z⟩
theorem at13 (X : K.In h) (G : h.Ns mainGlobals mg) (c : SaysX T fn K) : ∃ f fdt ps, FnAt T K mg f13 f fdt ps := by
  obtain ⟨fdt, F⟩ := c.d.def_ 13 (d := d13) rfl
  exact ⟨_, fdt, ["side"], c.glo X G (i := 13) (fd := f13) rfl, F.bindsN fun _ _ _ _ _ _ us hl => match us, hl with | [_], _ => rfl, rfl, ⟨_, _, _, _, F, ⟨rfl, rfl, rfl, by decide +kernel, rfl, by decide +kernel, by decide +kernel⟩, by decide +kernel⟩, fun z => by cases z⟩
theorem at14 (X : K.In h) (G : h.Ns mainGlobals mg) (c : SaysX T fn K) : ∃ f fdt ps, FnAt T K mg f14 f fdt ps := by
  obtain ⟨fdt, F⟩ := c.d.def_ 14 (d := d14) rfl
  exact ⟨_, fdt, ["setup", "side"], c.glo X G (i := 14) (fd := f14) rfl, F.bindsN fun _ _ _ _ _ _ us hl => match us, hl with | [_, _], _ => rfl, rfl, ⟨_, _, _, _, F, ⟨rfl, rfl, rfl, by decide +kernel, rfl, by decide +kernel, by decide +kernel⟩, by decide +kernel⟩, fun z => by cases z⟩
theorem at15 (X : K.In h) (G : h.Ns mainGlobals mg) (c : SaysX T fn K) : ∃ f fdt ps, FnAt T K mg f15 f fdt ps := by
  obtain ⟨fdt, F⟩ := c.d.def_ 15 (d := d15) rfl
  exact ⟨_, fdt, ["setup", "side", "at", "value"], c.glo X G (i := 15) (fd := f15) rfl, F.bindsN fun _ _ _ _ _ _ us hl => match us, hl with | [_, _, _, _], _ => rfl, rfl, ⟨_, _, _, _, F, ⟨rfl, rfl, rfl, by decide +kernel, rfl, by decide +kernel, by decide +kernel⟩, by decide +kernel⟩, fun z => by cases z⟩
theorem at16 (X : K.In h) (G : h.Ns mainGlobals mg) (c : SaysX T fn K) : ∃ f fdt ps, FnAt T K mg f16 f fdt ps := by
  obtain ⟨fdt, F⟩ := c.d.def_ 16 (d := d16) rfl
  exact ⟨_, fdt, ["setup", "side", "field", "value"], c.glo X G (i := 16) (fd := f16) rfl, F.bindsN fun _ _ _ _ _ _ us hl => match us, hl with | [_, _, _, _], _ => rfl, rfl, ⟨_, _, _, _, F, ⟨rfl, rfl, rfl, by decide +kernel, rfl, by decide +kernel, by decide +kernel⟩, by decide +kernel⟩, fun z => by cases z⟩
theorem at17 (X : K.In h) (G : h.Ns mainGlobals mg) (c : SaysX T fn K) : ∃ f fdt ps, FnAt T K mg f17 f fdt ps := by
  obtain ⟨fdt, F⟩ := c.d.def_ 17 (d := d17) rfl
  exact ⟨_, fdt, ["setup"], c.glo X G (i := 17) (fd := f17) rfl, F.bindsN fun _ _ _ _ _ _ us hl => match us, hl with | [_], _ => rfl, rfl, ⟨_, _, _, _, F, ⟨rfl, rfl, rfl, by decide +kernel, rfl, by decide +kernel, by decide +kernel⟩, by decide +kernel⟩, fun z => by cases z⟩
theorem at18 (X : K.In h) (G : h.Ns mainGlobals mg) (c : SaysX T fn K) : ∃ f fdt ps, FnAt T K mg f18 f fdt ps := by
  obtain ⟨fdt, F⟩ := c.d.def_ 18 (d := d18) rfl
  exact ⟨_, fdt, ["setup"], c.glo X G (i := 18) (fd := f18) rfl, F.bindsN fun _ _ _ _ _ _ us hl => match us, hl with | [_], _ => rfl, rfl, ⟨_, _, _, _, F, ⟨rfl, rfl, rfl, by decide +kernel, rfl, by decide +kernel, by decide +kernel⟩, by decide +kernel⟩, fun z => by cases z⟩
theorem at19 (X : K.In h) (G : h.Ns mainGlobals mg) (c : SaysX T fn K) : ∃ f fdt ps, FnAt T K mg f19 f fdt ps := by
  obtain ⟨fdt, F⟩ := c.d.def_ 19 (d := d19) rfl
  exact ⟨_, fdt, ["cell", "salt"], c.glo X G (i := 19) (fd := f19) rfl, F.bindsN fun _ _ _ _ _ _ us hl => match us, hl with | [_, _], _ => rfl, rfl, ⟨_, _, _, _, F, ⟨rfl, rfl, rfl, by decide +kernel, rfl, by decide +kernel, by decide +kernel⟩, by decide +kernel⟩, fun z => by cases z⟩
theorem at20 (X : K.In h) (G : h.Ns mainGlobals mg) (c : SaysX T fn K) : ∃ f fdt ps, FnAt T K mg f20 f fdt ps := by
  obtain ⟨fdt, F⟩ := c.d.def_ 20 (d := d20) rfl
  exact ⟨_, fdt, ["hand", "many"], c.glo X G (i := 20) (fd := f20) rfl, F.bindsN fun _ _ _ _ _ _ us hl => match us, hl with | [_, _], _ => rfl, rfl, ⟨_, _, _, _, F, ⟨rfl, rfl, rfl, by decide +kernel, rfl, by decide +kernel, by decide +kernel⟩, by decide +kernel⟩, fun z => by cases z⟩
theorem at21 (X : K.In h) (G : h.Ns mainGlobals mg) (c : SaysX T fn K) : ∃ f fdt ps, FnAt T K mg f21 f fdt ps := by
  obtain ⟨fdt, F⟩ := c.d.def_ 21 (d := d21) rfl
  exact ⟨_, fdt, ["hand", "some"], c.glo X G (i := 21) (fd := f21) rfl, F.bindsN fun _ _ _ _ _ _ us hl => match us, hl with | [_, _], _ => rfl, rfl, ⟨_, _, _, _, F, ⟨rfl, rfl, rfl, by decide +kernel, rfl, by decide +kernel, by decide +kernel⟩, by decide +kernel⟩, fun z => by cases z⟩
theorem at22 (X : K.In h) (G : h.Ns mainGlobals mg) (c : SaysX T fn K) : ∃ f fdt ps, FnAt T K mg f22 f fdt ps := by
  obtain ⟨fdt, F⟩ := c.d.def_ 22 (d := d22) rfl
  exact ⟨_, fdt, ["hand", "fields"], c.glo X G (i := 22) (fd := f22) rfl, F.bindsN fun _ _ _ _ _ _ us hl => match us, hl with | [_, _], _ => rfl, rfl, ⟨_, _, _, _, F, ⟨rfl, rfl, rfl, by decide +kernel, rfl, by decide +kernel, by decide +kernel⟩, by decide +kernel⟩, fun z => by cases z⟩
theorem at23 (X : K.In h) (G : h.Ns mainGlobals mg) (c : SaysX T fn K) : ∃ f fdt ps, FnAt T K mg f23 f fdt ps := by
  obtain ⟨fdt, F⟩ := c.d.def_ 23 (d := d23) rfl
  exact ⟨_, fdt, ["hand", "large"], c.glo X G (i := 23) (fd := f23) rfl, F.bindsN fun _ _ _ _ _ _ us hl => match us, hl with | [_, _], _ => rfl, rfl, ⟨_, _, _, _, F, ⟨rfl, rfl, rfl, by decide +kernel, rfl, by decide +kernel, by decide +kernel⟩, by decide +kernel⟩, fun z => by cases z⟩
theorem at24 (X : K.In h) (G : h.Ns mainGlobals mg) (c : SaysX T fn K) : ∃ f fdt ps, FnAt T K mg f24 f fdt ps := by
  obtain ⟨fdt, F⟩ := c.d.def_ 24 (d := d24) rfl
  exact ⟨_, fdt, ["setup", "side", "at", "value"], c.glo X G (i := 24) (fd := f24) rfl, F.bindsN fun _ _ _ _ _ _ us hl => match us, hl with | [_, _, _, _], _ => rfl, rfl, ⟨_, _, _, _, F, ⟨rfl, rfl, rfl, by decide +kernel, rfl, by decide +kernel, by decide +kernel⟩, by decide +kernel⟩, fun z => by cases z⟩
theorem at25 (X : K.In h) (G : h.Ns mainGlobals mg) (c : SaysX T fn K) : ∃ f fdt ps, FnAt T K mg f25 f fdt ps := by
  obtain ⟨fdt, F⟩ := c.d.def_ 25 (d := d25) rfl
  exact ⟨_, fdt, ["side"], c.glo X G (i := 25) (fd := f25) rfl, F.bindsN fun _ _ _ _ _ _ us hl => match us, hl with | [_], _ => rfl, rfl, ⟨_, _, _, _, F, ⟨rfl, rfl, rfl, by decide +kernel, rfl, by decide +kernel, by decide +kernel⟩, by decide +kernel⟩, fun z => by cases z⟩
theorem at26 (X : K.In h) (G : h.Ns mainGlobals mg) (c : SaysX T fn K) : ∃ f fdt ps, FnAt T K mg f26 f fdt ps := by
  obtain ⟨fdt, F⟩ := c.d.def_ 26 (d := d26) rfl
  exact ⟨_, fdt, ["setup", "side", "at", "value"], c.glo X G (i := 26) (fd := f26) rfl, F.bindsN fun _ _ _ _ _ _ us hl => match us, hl with | [_, _, _, _], _ => rfl, rfl, ⟨_, _, _, _, F, ⟨rfl, rfl, rfl, by decide +kernel, rfl, by decide +kernel, by decide +kernel⟩, by decide +kernel⟩, fun z => by cases z⟩
theorem at27 (X : K.In h) (G : h.Ns mainGlobals mg) (c : SaysX T fn K) : ∃ f fdt ps, FnAt T K mg f27 f fdt ps := by
  obtain ⟨fdt, F⟩ := c.d.def_ 27 (d := d27) rfl
  exact ⟨_, fdt, ["script"], c.glo X G (i := 27) (fd := f27) rfl, F.bindsN fun _ _ _ _ _ _ us hl => match us, hl with | [_], _ => rfl, rfl, ⟨_, _, _, _, F, ⟨rfl, rfl, rfl, by decide +kernel, rfl, by decide +kernel, by decide +kernel⟩, by decide +kernel⟩, fun z => c.lam (i := 27) (fd := f27) rfl rfl⟩
theorem at_ (X : K.In h) (G : h.Ns mainGlobals mg) (c : SaysX T fn K) : ∀ (i : Nat) fd, T.fns[i]? = some fd → ∃ f fdt ps, FnAt T K mg fd f fdt ps
  | 0, _, .refl _ => at0 X G c
  | 1, _, .refl _ => at1 X G c
  | 2, _, .refl _ => at2 X G c
  | 3, _, .refl _ => at3 X G c
  | 4, _, .refl _ => at4 X G c
  | 5, _, .refl _ => at5 X G c
  | 6, _, .refl _ => at6 X G c
  | 7, _, .refl _ => at7 X G c
  | 8, _, .refl _ => at8 X G c
  | 9, _, .refl _ => at9 X G c
  | 10, _, .refl _ => at10 X G c
  | 11, _, .refl _ => at11 X G c
  | 12, _, .refl _ => at12 X G c
  | 13, _, .refl _ => at13 X G c
  | 14, _, .refl _ => at14 X G c
  | 15, _, .refl _ => at15 X G c
  | 16, _, .refl _ => at16 X G c
  | 17, _, .refl _ => at17 X G c
  | 18, _, .refl _ => at18 X G c
  | 19, _, .refl _ => at19 X G c
  | 20, _, .refl _ => at20 X G c
  | 21, _, .refl _ => at21 X G c
  | 22, _, .refl _ => at22 X G c
  | 23, _, .refl _ => at23 X G c
  | 24, _, .refl _ => at24 X G c
  | 25, _, .refl _ => at25 X G c
  | 26, _, .refl _ => at26 X G c
  | 27, _, .refl _ => at27 X G c
  | n + 28, _, h => by cases h
theorem tt0 (X : K.In h) (G : h.Ns mainGlobals mg) (c : SaysX T fn K) : ThAt T K mg t0 := by
  obtain ⟨fdt, F⟩ := c.d.def_ 28 (d := e0) rfl
  have hb := F.bindsN (ps := ["call"]) fun _ _ _ _ _ _ us hl => match us, hl with | [_], _ => rfl
  obtain ⟨oc, od, dV, kV, doc, pm, an, cdv, ct, osl, e, lk, hcd, _, _⟩ := F.ex
  subst e
  exact ⟨_, oc, od, an, osl, _, _, _, dV, kV, doc, pm, cdv, ct, "call", ["call"], c.gth X G (i := 0) (th := t0) rfl, F.kp, lk, hcd, hb, ⟨rfl, rfl, rfl, by decide +kernel, rfl, by decide +kernel, by decide +kernel⟩, rfl, .inl rfl, by decide, by decide, by decide +kernel⟩
theorem tt_ (X : K.In h) (G : h.Ns mainGlobals mg) (c : SaysX T fn K) : ∀ t ∈ T.thk, ThAt T K mg t := by
  intro t ht
  simp only [T, List.mem_cons, List.not_mem_nil, or_false] at ht
  subst ht
  exact tt0 X G c
end
end K04

namespace K04
open Ev
abbrev F (k : Nat) := runF T.fns T.C k
def isLabel : D → Bool
  | .str s => decide (1 ≤ s.length ∧ s.length ≤ 8) && s.all fun c => decide (97 ≤ c ∧ c ≤ 122)
  | _ => false
theorem lab_str {s : List Nat} : isLabel (.str s) = (decide (1 ≤ s.length ∧ s.length ≤ 8) && s.all fun c => decide (97 ≤ c ∧ c ≤ 122)) := rfl
theorem c1 {n : Nat} : decide ((1 : Int) ≤ (n : Int)) = decide (1 ≤ n) := decide_eq_decide.mpr (by omega)
theorem c2 {n : Nat} : decide ((2 : Int) ≤ (n : Int)) = decide (2 ≤ n) := decide_eq_decide.mpr (by omega)
theorem c8 {n : Nat} : decide ((n : Int) ≤ 8) = decide (n ≤ 8) := decide_eq_decide.mpr (by omega)
theorem r0 (k : Nat) {m n : Nat} (v : D) (hv : sm m n v = true) : F (k + 1) 0 [v] = pur (.bl (isLabel v)) := by
  rw [F, runF_at (fd := f0) rfl rfl]
  show bnd (exS _ _ b0 [some v, none]) _ = _
  unfold b0
  cases v with
  | str s =>
    simp only [ev_var, ev_lit, ev_con, ev_tup, ev_lst, ev_un, ev_bi, ev_ch, ev_not, ev_and, ev_or, ev_ite, ev_cut, ev_call, ev_cel, ev_at0, ev_meth, ev_dct, ev_get2, ev_idx, ev_lam, evL_nil, evL_cons, evO_nil, evO_val, evC_nil, evC_val, itr_val, itr_rng1, itr_rng2, itr_zip, ex_nil, ex_cons, ex_skip, ex_set, ex_own, ex_frz, ex_unp, ex_par, ex_app, ex_put, ex_bad, ex_rse, ex_rsf, ex_try, itr_enu, ex_ret, ex_drop, ex_ite, bnd_assoc, fit_non, fit_bl, fit_int, fit_str, fitL_nil, fitL_cons, eq_ii, eq_ss, eq_bb, List.any_cons, List.any_nil, Bool.or_false, Bool.and_self, Bool.and_true, Bool.true_and, slot0, slotS, ofO_some, some_bnd, pur_bnd, non_bnd, noE_pur, asBl_bl, bnd_ite, if_bl, if_true, if_false, Bool.false_eq_true, Bool.not_true, Bool.not_false, reduceIte, pyAt0, pyAt1, pyAt2, pyAt3, List.getElem?_cons_zero, List.getElem?_cons_succ, u_isStr_non, u_isStr_bl, u_isStr_int, u_isStr_str, u_isStr_tup, u_isStr_lst, u_isStr_own, u_isTup_non, u_isTup_bl, u_isTup_int, u_isTup_str, u_isTup_tup, u_isTup_lst, u_isTup_own, u_isInt_non, u_isInt_bl, u_isInt_int, u_isInt_str, u_isInt_tup, u_isInt_lst, u_isInt_own, u_isBl_non, u_isBl_bl, u_isBl_int, u_isBl_str, u_isBl_tup, u_isBl_lst, u_isBl_own, u_isLst_non, u_isLst_bl, u_isLst_int, u_isLst_str, u_isLst_tup, u_isLst_lst, u_isLst_own, ok_non, ok_bl, ok_int, ok_str, ok_tup, ok_lst, ok_own, ok_ref, u_len_str, u_len_tup, u_len_lst, u_len_own, u_int_int, u_neg_int, u_tuple_tup, u_list_tup, u_tuple_lst, u_list_lst, u_tuple_own, u_list_own, u_rev_tup, u_rev_lst, b_add_int, b_sub_int, b_add_tup, b_add_str, b_add_lst, b_mul_int, b_mod_int, b_fdiv_int, b_eq, b_ne, b_lt_int, b_lt_str, b_le_int, b_le_str, b_gt_int, b_gt_str, b_ge_int, b_ge_str, b_in_tup, b_in_lst, b_nin_tup, b_in_str, b_nin_str, b_is_bl, b_isn_bl, b_ix_tup, b_ix_lst, b_ix_str, eqO_int, eqO_str, eqO_bl, it_tup, it_lst, it_str, intOf_int, zip_tup, zip_lst, rng1_int, rng2_int, cut_tup, cut_lst, set0, setS, bindT1, bindT2, bindP2, ok_pr, sq_lst, sq_own, sq_tup, idx_t, idx_l, idx_o, lam_pur, lam_err, try_pur, try_err, hdR_cons, raise_bnd, enu_tup, sets2, wipe1, wipe2, app_own, frz_own, lstK_lst, isStr_str, enu_lst, map_s, map_n, ofO_n]
    rw [ev_comp_map s (fun c => .str [c]) (fun c => .bl (decide (97 ≤ c ∧ c ≤ 122)))]
    · simp only [ev_var, ev_lit, ev_con, ev_tup, ev_lst, ev_un, ev_bi, ev_ch, ev_not, ev_and, ev_or, ev_ite, ev_cut, ev_call, ev_cel, ev_at0, ev_meth, ev_dct, ev_get2, ev_idx, ev_lam, evL_nil, evL_cons, evO_nil, evO_val, evC_nil, evC_val, itr_val, itr_rng1, itr_rng2, itr_zip, ex_nil, ex_cons, ex_skip, ex_set, ex_own, ex_frz, ex_unp, ex_par, ex_app, ex_put, ex_bad, ex_rse, ex_rsf, ex_try, itr_enu, ex_ret, ex_drop, ex_ite, bnd_assoc, fit_non, fit_bl, fit_int, fit_str, fitL_nil, fitL_cons, eq_ii, eq_ss, eq_bb, List.any_cons, List.any_nil, Bool.or_false, Bool.and_self, Bool.and_true, Bool.true_and, slot0, slotS, ofO_some, some_bnd, pur_bnd, non_bnd, noE_pur, asBl_bl, bnd_ite, if_bl, if_true, if_false, Bool.false_eq_true, Bool.not_true, Bool.not_false, reduceIte, pyAt0, pyAt1, pyAt2, pyAt3, List.getElem?_cons_zero, List.getElem?_cons_succ, u_isStr_non, u_isStr_bl, u_isStr_int, u_isStr_str, u_isStr_tup, u_isStr_lst, u_isStr_own, u_isTup_non, u_isTup_bl, u_isTup_int, u_isTup_str, u_isTup_tup, u_isTup_lst, u_isTup_own, u_isInt_non, u_isInt_bl, u_isInt_int, u_isInt_str, u_isInt_tup, u_isInt_lst, u_isInt_own, u_isBl_non, u_isBl_bl, u_isBl_int, u_isBl_str, u_isBl_tup, u_isBl_lst, u_isBl_own, u_isLst_non, u_isLst_bl, u_isLst_int, u_isLst_str, u_isLst_tup, u_isLst_lst, u_isLst_own, ok_non, ok_bl, ok_int, ok_str, ok_tup, ok_lst, ok_own, ok_ref, u_len_str, u_len_tup, u_len_lst, u_len_own, u_int_int, u_neg_int, u_tuple_tup, u_list_tup, u_tuple_lst, u_list_lst, u_tuple_own, u_list_own, u_rev_tup, u_rev_lst, b_add_int, b_sub_int, b_add_tup, b_add_str, b_add_lst, b_mul_int, b_mod_int, b_fdiv_int, b_eq, b_ne, b_lt_int, b_lt_str, b_le_int, b_le_str, b_gt_int, b_gt_str, b_ge_int, b_ge_str, b_in_tup, b_in_lst, b_nin_tup, b_in_str, b_nin_str, b_is_bl, b_isn_bl, b_ix_tup, b_ix_lst, b_ix_str, eqO_int, eqO_str, eqO_bl, it_tup, it_lst, it_str, intOf_int, zip_tup, zip_lst, rng1_int, rng2_int, cut_tup, cut_lst, set0, setS, bindT1, bindT2, bindP2, ok_pr, sq_lst, sq_own, sq_tup, idx_t, idx_l, idx_o, lam_pur, lam_err, try_pur, try_err, hdR_cons, raise_bnd, enu_tup, sets2, wipe1, wipe2, app_own, frz_own, lstK_lst, isStr_str, enu_lst, map_s, map_n, ofO_n, u_all_map, ite_pur, ite_bl, lab_str, c1, c8]
      by_cases h1 : 1 ≤ s.length <;> by_cases h2 : s.length ≤ 8 <;> simp [h1, h2, pur_bnd]
    · simp only [ev_var, ev_lit, ev_con, ev_tup, ev_lst, ev_un, ev_bi, ev_ch, ev_not, ev_and, ev_or, ev_ite, ev_cut, ev_call, ev_cel, ev_at0, ev_meth, ev_dct, ev_get2, ev_idx, ev_lam, evL_nil, evL_cons, evO_nil, evO_val, evC_nil, evC_val, itr_val, itr_rng1, itr_rng2, itr_zip, ex_nil, ex_cons, ex_skip, ex_set, ex_own, ex_frz, ex_unp, ex_par, ex_app, ex_put, ex_bad, ex_rse, ex_rsf, ex_try, itr_enu, ex_ret, ex_drop, ex_ite, bnd_assoc, fit_non, fit_bl, fit_int, fit_str, fitL_nil, fitL_cons, eq_ii, eq_ss, eq_bb, List.any_cons, List.any_nil, Bool.or_false, Bool.and_self, Bool.and_true, Bool.true_and, slot0, slotS, ofO_some, some_bnd, pur_bnd, non_bnd, noE_pur, asBl_bl, bnd_ite, if_bl, if_true, if_false, Bool.false_eq_true, Bool.not_true, Bool.not_false, reduceIte, pyAt0, pyAt1, pyAt2, pyAt3, List.getElem?_cons_zero, List.getElem?_cons_succ, u_isStr_non, u_isStr_bl, u_isStr_int, u_isStr_str, u_isStr_tup, u_isStr_lst, u_isStr_own, u_isTup_non, u_isTup_bl, u_isTup_int, u_isTup_str, u_isTup_tup, u_isTup_lst, u_isTup_own, u_isInt_non, u_isInt_bl, u_isInt_int, u_isInt_str, u_isInt_tup, u_isInt_lst, u_isInt_own, u_isBl_non, u_isBl_bl, u_isBl_int, u_isBl_str, u_isBl_tup, u_isBl_lst, u_isBl_own, u_isLst_non, u_isLst_bl, u_isLst_int, u_isLst_str, u_isLst_tup, u_isLst_lst, u_isLst_own, ok_non, ok_bl, ok_int, ok_str, ok_tup, ok_lst, ok_own, ok_ref, u_len_str, u_len_tup, u_len_lst, u_len_own, u_int_int, u_neg_int, u_tuple_tup, u_list_tup, u_tuple_lst, u_list_lst, u_tuple_own, u_list_own, u_rev_tup, u_rev_lst, b_add_int, b_sub_int, b_add_tup, b_add_str, b_add_lst, b_mul_int, b_mod_int, b_fdiv_int, b_eq, b_ne, b_lt_int, b_lt_str, b_le_int, b_le_str, b_gt_int, b_gt_str, b_ge_int, b_ge_str, b_in_tup, b_in_lst, b_nin_tup, b_in_str, b_nin_str, b_is_bl, b_isn_bl, b_ix_tup, b_ix_lst, b_ix_str, eqO_int, eqO_str, eqO_bl, it_tup, it_lst, it_str, intOf_int, zip_tup, zip_lst, rng1_int, rng2_int, cut_tup, cut_lst, set0, setS, bindT1, bindT2, bindP2, ok_pr, sq_lst, sq_own, sq_tup, idx_t, idx_l, idx_o, lam_pur, lam_err, try_pur, try_err, hdR_cons, raise_bnd, enu_tup, sets2, wipe1, wipe2, app_own, frz_own, lstK_lst, isStr_str, enu_lst, map_s, map_n, ofO_n]
    · intro c hc
      simp only [ev_var, ev_lit, ev_con, ev_tup, ev_lst, ev_un, ev_bi, ev_ch, ev_not, ev_and, ev_or, ev_ite, ev_cut, ev_call, ev_cel, ev_at0, ev_meth, ev_dct, ev_get2, ev_idx, ev_lam, evL_nil, evL_cons, evO_nil, evO_val, evC_nil, evC_val, itr_val, itr_rng1, itr_rng2, itr_zip, ex_nil, ex_cons, ex_skip, ex_set, ex_own, ex_frz, ex_unp, ex_par, ex_app, ex_put, ex_bad, ex_rse, ex_rsf, ex_try, itr_enu, ex_ret, ex_drop, ex_ite, bnd_assoc, fit_non, fit_bl, fit_int, fit_str, fitL_nil, fitL_cons, eq_ii, eq_ss, eq_bb, List.any_cons, List.any_nil, Bool.or_false, Bool.and_self, Bool.and_true, Bool.true_and, slot0, slotS, ofO_some, some_bnd, pur_bnd, non_bnd, noE_pur, asBl_bl, bnd_ite, if_bl, if_true, if_false, Bool.false_eq_true, Bool.not_true, Bool.not_false, reduceIte, pyAt0, pyAt1, pyAt2, pyAt3, List.getElem?_cons_zero, List.getElem?_cons_succ, u_isStr_non, u_isStr_bl, u_isStr_int, u_isStr_str, u_isStr_tup, u_isStr_lst, u_isStr_own, u_isTup_non, u_isTup_bl, u_isTup_int, u_isTup_str, u_isTup_tup, u_isTup_lst, u_isTup_own, u_isInt_non, u_isInt_bl, u_isInt_int, u_isInt_str, u_isInt_tup, u_isInt_lst, u_isInt_own, u_isBl_non, u_isBl_bl, u_isBl_int, u_isBl_str, u_isBl_tup, u_isBl_lst, u_isBl_own, u_isLst_non, u_isLst_bl, u_isLst_int, u_isLst_str, u_isLst_tup, u_isLst_lst, u_isLst_own, ok_non, ok_bl, ok_int, ok_str, ok_tup, ok_lst, ok_own, ok_ref, u_len_str, u_len_tup, u_len_lst, u_len_own, u_int_int, u_neg_int, u_tuple_tup, u_list_tup, u_tuple_lst, u_list_lst, u_tuple_own, u_list_own, u_rev_tup, u_rev_lst, b_add_int, b_sub_int, b_add_tup, b_add_str, b_add_lst, b_mul_int, b_mod_int, b_fdiv_int, b_eq, b_ne, b_lt_int, b_lt_str, b_le_int, b_le_str, b_gt_int, b_gt_str, b_ge_int, b_ge_str, b_in_tup, b_in_lst, b_nin_tup, b_in_str, b_nin_str, b_is_bl, b_isn_bl, b_ix_tup, b_ix_lst, b_ix_str, eqO_int, eqO_str, eqO_bl, it_tup, it_lst, it_str, intOf_int, zip_tup, zip_lst, rng1_int, rng2_int, cut_tup, cut_lst, set0, setS, bindT1, bindT2, bindP2, ok_pr, sq_lst, sq_own, sq_tup, idx_t, idx_l, idx_o, lam_pur, lam_err, try_pur, try_err, hdR_cons, raise_bnd, enu_tup, sets2, wipe1, wipe2, app_own, frz_own, lstK_lst, isStr_str, enu_lst, map_s, map_n, ofO_n, le1, decide_eq_true_eq]
      by_cases h : 97 ≤ c <;> simp [h]
  | ref l => cases n <;> cases hv
  | pr a b => cases n <;> cases hv
  | _ => rfl
/-- the law's own -/
theorem eq_nil_map {α : Type} {l : List α} {f : α → D} {p : α → Bool} : D.eq (.lst ((l.filter fun x => !p x).map f)) (.lst []) = l.all p := by
  rw [eq_lst_nil]
  induction l with
  | nil => rfl
  | cons a l ih =>
    rw [List.filter_cons, List.all_cons]
    cases p a with
    | true => exact ih
    | false => rfl
theorem fit_ints {α : Type} {n : Nat} {l : List α} {f : α → Int} : (D.lst (l.map fun x => .int (f x))).fit (n + 1) = true := by
  unfold D.fit
  rw [fitL_iff]
  intro d hd
  obtain ⟨x, _, rfl⟩ := List.mem_map.mp hd
  unfold D.fit; rfl
theorem fit_of {α : Type} {n : Nat} {l : List α} {f : α → D} (h : ∀ x ∈ l, (f x).fit n = true) : (D.lst (l.map f)).fit (n + 1) = true := by
  unfold D.fit
  rw [fitL_iff]
  intro d hd
  obtain ⟨x, hx, rfl⟩ := List.mem_map.mp hd
  exact h x hx
theorem fit_strs {α : Type} {n : Nat} {l : List α} {f : α → List Nat} : (D.lst (l.map fun x => .str (f x))).fit (n + 1) = true := fit_of fun _ _ => by unfold D.fit; rfl
theorem fit_nil {n : Nat} : (D.lst []).fit (n + 1) = true := by unfold D.fit D.fitL; rfl
def climbs (ss : List (List Nat)) : Bool := (List.range (ss.length - 1)).all fun i => decide (ss.getD i [] < ss.getD (i + 1) [])
theorem at_map {ss : List (List Nat)} {i : Nat} (h : i < ss.length) : pyAt (ss.map D.str) (i : Int) = some (.str (ss.getD i [])) := by
  rw [pyAt_nat, List.getElem?_map, List.getElem?_eq_getElem h, List.getD_eq_getElem?_getD, List.getElem?_eq_getElem h]
  rfl
theorem rng_a {n : Nat} : rngL 0 ((n : Int) - 1) = (List.range (n - 1)).map fun (i : Nat) => D.int (i : Int) := by
  unfold rngL
  have : ((n : Int) - 1 - 0).toNat = n - 1 := by omega
  rw [this]
  simp
theorem rng_b {n : Nat} : rngL 1 (n : Int) = (List.range (n - 1)).map fun (i : Nat) => D.int (1 + (i : Int)) := by
  unfold rngL
  have : ((n : Int) - 1).toNat = n - 1 := by omega
  rw [this]
theorem rok {i : Int} (h1 : -16777216 ≤ i) (h2 : i ≤ 16777216) : rngOk i = true := decide_eq_true ⟨h1, h2⟩
theorem cast1 {i : Nat} : (i : Int) + 1 = ((i + 1 : Nat) : Int) := rfl
theorem r1 (k : Nat) (ss : List (List Nat)) (d : D) (hd : d = .tup (ss.map .str) ∨ d = .lst (ss.map .str)) (hl : ss.length ≤ 100) : F (k + 1) 1 [d] = pur (.bl (climbs ss)) := by
  rw [F, runF_at (fd := f1) rfl rfl]
  show bnd (exS _ _ b1 [some d, none]) _ = _
  unfold b1
  have h1 := rok (i := (ss.length : Int) - 1) (by omega) (by omega)
  rcases hd with rfl | rfl
  all_goals
    simp only [ev_var, ev_lit, ev_con, ev_tup, ev_lst, ev_un, ev_bi, ev_ch, ev_not, ev_and, ev_or, ev_ite, ev_cut, ev_call, ev_cel, ev_at0, ev_meth, ev_dct, ev_get2, ev_idx, ev_lam, evL_nil, evL_cons, evO_nil, evO_val, evC_nil, evC_val, itr_val, itr_rng1, itr_rng2, itr_zip, ex_nil, ex_cons, ex_skip, ex_set, ex_own, ex_frz, ex_unp, ex_par, ex_app, ex_put, ex_bad, ex_rse, ex_rsf, ex_try, itr_enu, ex_ret, ex_drop, ex_ite, bnd_assoc, fit_non, fit_bl, fit_int, fit_str, fitL_nil, fitL_cons, eq_ii, eq_ss, eq_bb, List.any_cons, List.any_nil, Bool.or_false, Bool.and_self, Bool.and_true, Bool.true_and, slot0, slotS, ofO_some, some_bnd, pur_bnd, non_bnd, noE_pur, asBl_bl, bnd_ite, if_bl, if_true, if_false, Bool.false_eq_true, Bool.not_true, Bool.not_false, reduceIte, pyAt0, pyAt1, pyAt2, pyAt3, List.getElem?_cons_zero, List.getElem?_cons_succ, u_isStr_non, u_isStr_bl, u_isStr_int, u_isStr_str, u_isStr_tup, u_isStr_lst, u_isStr_own, u_isTup_non, u_isTup_bl, u_isTup_int, u_isTup_str, u_isTup_tup, u_isTup_lst, u_isTup_own, u_isInt_non, u_isInt_bl, u_isInt_int, u_isInt_str, u_isInt_tup, u_isInt_lst, u_isInt_own, u_isBl_non, u_isBl_bl, u_isBl_int, u_isBl_str, u_isBl_tup, u_isBl_lst, u_isBl_own, u_isLst_non, u_isLst_bl, u_isLst_int, u_isLst_str, u_isLst_tup, u_isLst_lst, u_isLst_own, ok_non, ok_bl, ok_int, ok_str, ok_tup, ok_lst, ok_own, ok_ref, u_len_str, u_len_tup, u_len_lst, u_len_own, u_int_int, u_neg_int, u_tuple_tup, u_list_tup, u_tuple_lst, u_list_lst, u_tuple_own, u_list_own, u_rev_tup, u_rev_lst, b_add_int, b_sub_int, b_add_tup, b_add_str, b_add_lst, b_mul_int, b_mod_int, b_fdiv_int, b_eq, b_ne, b_lt_int, b_lt_str, b_le_int, b_le_str, b_gt_int, b_gt_str, b_ge_int, b_ge_str, b_in_tup, b_in_lst, b_nin_tup, b_in_str, b_nin_str, b_is_bl, b_isn_bl, b_ix_tup, b_ix_lst, b_ix_str, eqO_int, eqO_str, eqO_bl, it_tup, it_lst, it_str, intOf_int, zip_tup, zip_lst, rng1_int, rng2_int, cut_tup, cut_lst, set0, setS, bindT1, bindT2, bindP2, ok_pr, sq_lst, sq_own, sq_tup, idx_t, idx_l, idx_o, lam_pur, lam_err, try_pur, try_err, hdR_cons, raise_bnd, enu_tup, sets2, wipe1, wipe2, app_own, frz_own, lstK_lst, isStr_str, enu_lst, map_s, map_n, ofO_n]
    rw [ev_comp_map (List.range (ss.length - 1)) (fun (i : Nat) => D.int (i : Int)) (fun i => .bl (decide (ss.getD i [] < ss.getD (i + 1) [])))]
    · simp only [ev_var, ev_lit, ev_con, ev_tup, ev_lst, ev_un, ev_bi, ev_ch, ev_not, ev_and, ev_or, ev_ite, ev_cut, ev_call, ev_cel, ev_at0, ev_meth, ev_dct, ev_get2, ev_idx, ev_lam, evL_nil, evL_cons, evO_nil, evO_val, evC_nil, evC_val, itr_val, itr_rng1, itr_rng2, itr_zip, ex_nil, ex_cons, ex_skip, ex_set, ex_own, ex_frz, ex_unp, ex_par, ex_app, ex_put, ex_bad, ex_rse, ex_rsf, ex_try, itr_enu, ex_ret, ex_drop, ex_ite, bnd_assoc, fit_non, fit_bl, fit_int, fit_str, fitL_nil, fitL_cons, eq_ii, eq_ss, eq_bb, List.any_cons, List.any_nil, Bool.or_false, Bool.and_self, Bool.and_true, Bool.true_and, slot0, slotS, ofO_some, some_bnd, pur_bnd, non_bnd, noE_pur, asBl_bl, bnd_ite, if_bl, if_true, if_false, Bool.false_eq_true, Bool.not_true, Bool.not_false, reduceIte, pyAt0, pyAt1, pyAt2, pyAt3, List.getElem?_cons_zero, List.getElem?_cons_succ, u_isStr_non, u_isStr_bl, u_isStr_int, u_isStr_str, u_isStr_tup, u_isStr_lst, u_isStr_own, u_isTup_non, u_isTup_bl, u_isTup_int, u_isTup_str, u_isTup_tup, u_isTup_lst, u_isTup_own, u_isInt_non, u_isInt_bl, u_isInt_int, u_isInt_str, u_isInt_tup, u_isInt_lst, u_isInt_own, u_isBl_non, u_isBl_bl, u_isBl_int, u_isBl_str, u_isBl_tup, u_isBl_lst, u_isBl_own, u_isLst_non, u_isLst_bl, u_isLst_int, u_isLst_str, u_isLst_tup, u_isLst_lst, u_isLst_own, ok_non, ok_bl, ok_int, ok_str, ok_tup, ok_lst, ok_own, ok_ref, u_len_str, u_len_tup, u_len_lst, u_len_own, u_int_int, u_neg_int, u_tuple_tup, u_list_tup, u_tuple_lst, u_list_lst, u_tuple_own, u_list_own, u_rev_tup, u_rev_lst, b_add_int, b_sub_int, b_add_tup, b_add_str, b_add_lst, b_mul_int, b_mod_int, b_fdiv_int, b_eq, b_ne, b_lt_int, b_lt_str, b_le_int, b_le_str, b_gt_int, b_gt_str, b_ge_int, b_ge_str, b_in_tup, b_in_lst, b_nin_tup, b_in_str, b_nin_str, b_is_bl, b_isn_bl, b_ix_tup, b_ix_lst, b_ix_str, eqO_int, eqO_str, eqO_bl, it_tup, it_lst, it_str, intOf_int, zip_tup, zip_lst, rng1_int, rng2_int, cut_tup, cut_lst, set0, setS, bindT1, bindT2, bindP2, ok_pr, sq_lst, sq_own, sq_tup, idx_t, idx_l, idx_o, lam_pur, lam_err, try_pur, try_err, hdR_cons, raise_bnd, enu_tup, sets2, wipe1, wipe2, app_own, frz_own, lstK_lst, isStr_str, enu_lst, map_s, map_n, ofO_n, u_all_map]
      rfl
    · simp only [ev_var, ev_lit, ev_con, ev_tup, ev_lst, ev_un, ev_bi, ev_ch, ev_not, ev_and, ev_or, ev_ite, ev_cut, ev_call, ev_cel, ev_at0, ev_meth, ev_dct, ev_get2, ev_idx, ev_lam, evL_nil, evL_cons, evO_nil, evO_val, evC_nil, evC_val, itr_val, itr_rng1, itr_rng2, itr_zip, ex_nil, ex_cons, ex_skip, ex_set, ex_own, ex_frz, ex_unp, ex_par, ex_app, ex_put, ex_bad, ex_rse, ex_rsf, ex_try, itr_enu, ex_ret, ex_drop, ex_ite, bnd_assoc, fit_non, fit_bl, fit_int, fit_str, fitL_nil, fitL_cons, eq_ii, eq_ss, eq_bb, List.any_cons, List.any_nil, Bool.or_false, Bool.and_self, Bool.and_true, Bool.true_and, slot0, slotS, ofO_some, some_bnd, pur_bnd, non_bnd, noE_pur, asBl_bl, bnd_ite, if_bl, if_true, if_false, Bool.false_eq_true, Bool.not_true, Bool.not_false, reduceIte, pyAt0, pyAt1, pyAt2, pyAt3, List.getElem?_cons_zero, List.getElem?_cons_succ, u_isStr_non, u_isStr_bl, u_isStr_int, u_isStr_str, u_isStr_tup, u_isStr_lst, u_isStr_own, u_isTup_non, u_isTup_bl, u_isTup_int, u_isTup_str, u_isTup_tup, u_isTup_lst, u_isTup_own, u_isInt_non, u_isInt_bl, u_isInt_int, u_isInt_str, u_isInt_tup, u_isInt_lst, u_isInt_own, u_isBl_non, u_isBl_bl, u_isBl_int, u_isBl_str, u_isBl_tup, u_isBl_lst, u_isBl_own, u_isLst_non, u_isLst_bl, u_isLst_int, u_isLst_str, u_isLst_tup, u_isLst_lst, u_isLst_own, ok_non, ok_bl, ok_int, ok_str, ok_tup, ok_lst, ok_own, ok_ref, u_len_str, u_len_tup, u_len_lst, u_len_own, u_int_int, u_neg_int, u_tuple_tup, u_list_tup, u_tuple_lst, u_list_lst, u_tuple_own, u_list_own, u_rev_tup, u_rev_lst, b_add_int, b_sub_int, b_add_tup, b_add_str, b_add_lst, b_mul_int, b_mod_int, b_fdiv_int, b_eq, b_ne, b_lt_int, b_lt_str, b_le_int, b_le_str, b_gt_int, b_gt_str, b_ge_int, b_ge_str, b_in_tup, b_in_lst, b_nin_tup, b_in_str, b_nin_str, b_is_bl, b_isn_bl, b_ix_tup, b_ix_lst, b_ix_str, eqO_int, eqO_str, eqO_bl, it_tup, it_lst, it_str, intOf_int, zip_tup, zip_lst, rng1_int, rng2_int, cut_tup, cut_lst, set0, setS, bindT1, bindT2, bindP2, ok_pr, sq_lst, sq_own, sq_tup, idx_t, idx_l, idx_o, lam_pur, lam_err, try_pur, try_err, hdR_cons, raise_bnd, enu_tup, sets2, wipe1, wipe2, app_own, frz_own, lstK_lst, isStr_str, enu_lst, map_s, map_n, ofO_n, List.length_map, h1, rng_a]
    · intro i hi
      have hi := List.mem_range.mp hi
      simp only [ev_var, ev_lit, ev_con, ev_tup, ev_lst, ev_un, ev_bi, ev_ch, ev_not, ev_and, ev_or, ev_ite, ev_cut, ev_call, ev_cel, ev_at0, ev_meth, ev_dct, ev_get2, ev_idx, ev_lam, evL_nil, evL_cons, evO_nil, evO_val, evC_nil, evC_val, itr_val, itr_rng1, itr_rng2, itr_zip, ex_nil, ex_cons, ex_skip, ex_set, ex_own, ex_frz, ex_unp, ex_par, ex_app, ex_put, ex_bad, ex_rse, ex_rsf, ex_try, itr_enu, ex_ret, ex_drop, ex_ite, bnd_assoc, fit_non, fit_bl, fit_int, fit_str, fitL_nil, fitL_cons, eq_ii, eq_ss, eq_bb, List.any_cons, List.any_nil, Bool.or_false, Bool.and_self, Bool.and_true, Bool.true_and, slot0, slotS, ofO_some, some_bnd, pur_bnd, non_bnd, noE_pur, asBl_bl, bnd_ite, if_bl, if_true, if_false, Bool.false_eq_true, Bool.not_true, Bool.not_false, reduceIte, pyAt0, pyAt1, pyAt2, pyAt3, List.getElem?_cons_zero, List.getElem?_cons_succ, u_isStr_non, u_isStr_bl, u_isStr_int, u_isStr_str, u_isStr_tup, u_isStr_lst, u_isStr_own, u_isTup_non, u_isTup_bl, u_isTup_int, u_isTup_str, u_isTup_tup, u_isTup_lst, u_isTup_own, u_isInt_non, u_isInt_bl, u_isInt_int, u_isInt_str, u_isInt_tup, u_isInt_lst, u_isInt_own, u_isBl_non, u_isBl_bl, u_isBl_int, u_isBl_str, u_isBl_tup, u_isBl_lst, u_isBl_own, u_isLst_non, u_isLst_bl, u_isLst_int, u_isLst_str, u_isLst_tup, u_isLst_lst, u_isLst_own, ok_non, ok_bl, ok_int, ok_str, ok_tup, ok_lst, ok_own, ok_ref, u_len_str, u_len_tup, u_len_lst, u_len_own, u_int_int, u_neg_int, u_tuple_tup, u_list_tup, u_tuple_lst, u_list_lst, u_tuple_own, u_list_own, u_rev_tup, u_rev_lst, b_add_int, b_sub_int, b_add_tup, b_add_str, b_add_lst, b_mul_int, b_mod_int, b_fdiv_int, b_eq, b_ne, b_lt_int, b_lt_str, b_le_int, b_le_str, b_gt_int, b_gt_str, b_ge_int, b_ge_str, b_in_tup, b_in_lst, b_nin_tup, b_in_str, b_nin_str, b_is_bl, b_isn_bl, b_ix_tup, b_ix_lst, b_ix_str, eqO_int, eqO_str, eqO_bl, it_tup, it_lst, it_str, intOf_int, zip_tup, zip_lst, rng1_int, rng2_int, cut_tup, cut_lst, set0, setS, bindT1, bindT2, bindP2, ok_pr, sq_lst, sq_own, sq_tup, idx_t, idx_l, idx_o, lam_pur, lam_err, try_pur, try_err, hdR_cons, raise_bnd, enu_tup, sets2, wipe1, wipe2, app_own, frz_own, lstK_lst, isStr_str, enu_lst, map_s, map_n, ofO_n, at_map (show i < ss.length by omega), cast1, at_map (show i + 1 < ss.length by omega)]
theorem cast2 {i : Nat} : (1 : Int) + (i : Int) = ((i + 1 : Nat) : Int) := by omega
theorem cast3 {i : Nat} : ((i + 1 : Nat) : Int) - 1 = (i : Int) := by omega
def strOf : D → List Nat
  | .str s => s
  | _ => []
theorem lab_of {d : D} (h : isLabel d = true) : d = .str (strOf d) := by
  cases d <;> first | rfl | cases h
theorem labs_of : ∀ {l : List D}, l.all isLabel = true → l = (l.map strOf).map D.str
  | [], _ => rfl
  | d :: l, h => by
    rw [List.all_cons] at h
    obtain ⟨h1, h2⟩ := band h
    rw [List.map_cons, List.map_cons, ← labs_of h2, ← lab_of h1]
def isVals : D → Bool
  | .tup vs => decide (2 ≤ vs.length ∧ vs.length ≤ 4) && (vs.all isLabel && climbs (vs.map strOf))
  | _ => false
def isField : D → Bool
  | .tup [a, b] => isLabel a && isVals b
  | _ => false
theorem field_tup {a b : D} : isField (.tup [a, b]) = (isLabel a && isVals b) := rfl
theorem vals_tup {vs : List D} : isVals (.tup vs) = (decide (2 ≤ vs.length ∧ vs.length ≤ 4) && (vs.all isLabel && climbs (vs.map strOf))) := rfl
theorem len2 {l : List D} (h : l.length = 2) : ∃ a b, l = [a, b] := by
  match l, h with
  | [a, b], _ => exact ⟨a, b, rfl⟩
theorem len4 {l : List D} (h : l.length = 4) : ∃ a b c d, l = [a, b, c, d] := by
  match l, h with
  | [a, b, c, d], _ => exact ⟨a, b, c, d, rfl⟩
theorem field_not {l : List D} (h : l.length ≠ 2) : isField (.tup l) = false := by
  match l, h with
  | [], _ => rfl
  | [_], _ => rfl
  | [_, _], h => exact absurd rfl h
  | _ :: _ :: _ :: _, _ => rfl
theorem beq_n {n m : Nat} : ((n : Int) == (m : Int)) = decide (n = m) := by
  by_cases h : n = m
  · subst h; simp
  · have : (n : Int) ≠ (m : Int) := by omega
    simp [h, this]
theorem beq2 {n : Nat} : ((n : Int) == 2) = decide (n = 2) := beq_n (m := 2)
theorem beq4 {n : Nat} : ((n : Int) == 4) = decide (n = 4) := beq_n (m := 4)
theorem c4 {n : Nat} : decide ((n : Int) ≤ 4) = decide (n ≤ 4) := decide_eq_decide.mpr (by omega)
theorem c6 {n : Int} : decide (n ≤ 6) = decide (n ≤ 6) := rfl
theorem sm2 {m n : Nat} {a b : D} (h : sm m (n + 1) (.tup [a, b]) = true) : sm m n a = true ∧ sm m n b = true :=
  ⟨(sm_tup.mp h).2 a (by simp), (sm_tup.mp h).2 b (by simp)⟩
theorem sm_pos {m n : Nat} {l : List D} (h : sm m n (.tup l) = true) : ∃ n', n = n' + 1 := by
  cases n with
  | zero => cases h
  | succ n => exact ⟨n, rfl⟩
theorem r2 (k : Nat) {m n : Nat} (v : D) (hv : sm m n v = true) : F (k + 2) 2 [v] = pur (.bl (isField v)) := by
  rw [F, runF_at (fd := f2) rfl rfl]
  show bnd (exS _ _ b2 [some v, none]) _ = _
  unfold b2
  cases v with
  | tup l =>
    obtain ⟨n, rfl⟩ := sm_pos hv
    by_cases hl : l.length = 2
    · obtain ⟨a, b, rfl⟩ := len2 hl
      obtain ⟨ha, hb⟩ := sm2 hv
      have h0 := r0 k a ha
      have hl2 : ((([a, b] : List D).length : Nat) : Int) = 2 := rfl
      simp only [ev_var, ev_lit, ev_con, ev_tup, ev_lst, ev_un, ev_bi, ev_ch, ev_not, ev_and, ev_or, ev_ite, ev_cut, ev_call, ev_cel, ev_at0, ev_meth, ev_dct, ev_get2, ev_idx, ev_lam, evL_nil, evL_cons, evO_nil, evO_val, evC_nil, evC_val, itr_val, itr_rng1, itr_rng2, itr_zip, ex_nil, ex_cons, ex_skip, ex_set, ex_own, ex_frz, ex_unp, ex_par, ex_app, ex_put, ex_bad, ex_rse, ex_rsf, ex_try, itr_enu, ex_ret, ex_drop, ex_ite, bnd_assoc, fit_non, fit_bl, fit_int, fit_str, fitL_nil, fitL_cons, eq_ii, eq_ss, eq_bb, List.any_cons, List.any_nil, Bool.or_false, Bool.and_self, Bool.and_true, Bool.true_and, slot0, slotS, ofO_some, some_bnd, pur_bnd, non_bnd, noE_pur, asBl_bl, bnd_ite, if_bl, if_true, if_false, Bool.false_eq_true, Bool.not_true, Bool.not_false, reduceIte, pyAt0, pyAt1, pyAt2, pyAt3, List.getElem?_cons_zero, List.getElem?_cons_succ, u_isStr_non, u_isStr_bl, u_isStr_int, u_isStr_str, u_isStr_tup, u_isStr_lst, u_isStr_own, u_isTup_non, u_isTup_bl, u_isTup_int, u_isTup_str, u_isTup_tup, u_isTup_lst, u_isTup_own, u_isInt_non, u_isInt_bl, u_isInt_int, u_isInt_str, u_isInt_tup, u_isInt_lst, u_isInt_own, u_isBl_non, u_isBl_bl, u_isBl_int, u_isBl_str, u_isBl_tup, u_isBl_lst, u_isBl_own, u_isLst_non, u_isLst_bl, u_isLst_int, u_isLst_str, u_isLst_tup, u_isLst_lst, u_isLst_own, ok_non, ok_bl, ok_int, ok_str, ok_tup, ok_lst, ok_own, ok_ref, u_len_str, u_len_tup, u_len_lst, u_len_own, u_int_int, u_neg_int, u_tuple_tup, u_list_tup, u_tuple_lst, u_list_lst, u_tuple_own, u_list_own, u_rev_tup, u_rev_lst, b_add_int, b_sub_int, b_add_tup, b_add_str, b_add_lst, b_mul_int, b_mod_int, b_fdiv_int, b_eq, b_ne, b_lt_int, b_lt_str, b_le_int, b_le_str, b_gt_int, b_gt_str, b_ge_int, b_ge_str, b_in_tup, b_in_lst, b_nin_tup, b_in_str, b_nin_str, b_is_bl, b_isn_bl, b_ix_tup, b_ix_lst, b_ix_str, eqO_int, eqO_str, eqO_bl, it_tup, it_lst, it_str, intOf_int, zip_tup, zip_lst, rng1_int, rng2_int, cut_tup, cut_lst, set0, setS, bindT1, bindT2, bindP2, ok_pr, sq_lst, sq_own, sq_tup, idx_t, idx_l, idx_o, lam_pur, lam_err, try_pur, try_err, hdR_cons, raise_bnd, enu_tup, sets2, wipe1, wipe2, app_own, frz_own, lstK_lst, isStr_str, enu_lst, map_s, map_n, ofO_n, hl2, sm_ok ha, h0, field_tup, beq_self_eq_true]
      cases hla : isLabel a with
      | false => simp only [ev_var, ev_lit, ev_con, ev_tup, ev_lst, ev_un, ev_bi, ev_ch, ev_not, ev_and, ev_or, ev_ite, ev_cut, ev_call, ev_cel, ev_at0, ev_meth, ev_dct, ev_get2, ev_idx, ev_lam, evL_nil, evL_cons, evO_nil, evO_val, evC_nil, evC_val, itr_val, itr_rng1, itr_rng2, itr_zip, ex_nil, ex_cons, ex_skip, ex_set, ex_own, ex_frz, ex_unp, ex_par, ex_app, ex_put, ex_bad, ex_rse, ex_rsf, ex_try, itr_enu, ex_ret, ex_drop, ex_ite, bnd_assoc, fit_non, fit_bl, fit_int, fit_str, fitL_nil, fitL_cons, eq_ii, eq_ss, eq_bb, List.any_cons, List.any_nil, Bool.or_false, Bool.and_self, Bool.and_true, Bool.true_and, slot0, slotS, ofO_some, some_bnd, pur_bnd, non_bnd, noE_pur, asBl_bl, bnd_ite, if_bl, if_true, if_false, Bool.false_eq_true, Bool.not_true, Bool.not_false, reduceIte, pyAt0, pyAt1, pyAt2, pyAt3, List.getElem?_cons_zero, List.getElem?_cons_succ, u_isStr_non, u_isStr_bl, u_isStr_int, u_isStr_str, u_isStr_tup, u_isStr_lst, u_isStr_own, u_isTup_non, u_isTup_bl, u_isTup_int, u_isTup_str, u_isTup_tup, u_isTup_lst, u_isTup_own, u_isInt_non, u_isInt_bl, u_isInt_int, u_isInt_str, u_isInt_tup, u_isInt_lst, u_isInt_own, u_isBl_non, u_isBl_bl, u_isBl_int, u_isBl_str, u_isBl_tup, u_isBl_lst, u_isBl_own, u_isLst_non, u_isLst_bl, u_isLst_int, u_isLst_str, u_isLst_tup, u_isLst_lst, u_isLst_own, ok_non, ok_bl, ok_int, ok_str, ok_tup, ok_lst, ok_own, ok_ref, u_len_str, u_len_tup, u_len_lst, u_len_own, u_int_int, u_neg_int, u_tuple_tup, u_list_tup, u_tuple_lst, u_list_lst, u_tuple_own, u_list_own, u_rev_tup, u_rev_lst, b_add_int, b_sub_int, b_add_tup, b_add_str, b_add_lst, b_mul_int, b_mod_int, b_fdiv_int, b_eq, b_ne, b_lt_int, b_lt_str, b_le_int, b_le_str, b_gt_int, b_gt_str, b_ge_int, b_ge_str, b_in_tup, b_in_lst, b_nin_tup, b_in_str, b_nin_str, b_is_bl, b_isn_bl, b_ix_tup, b_ix_lst, b_ix_str, eqO_int, eqO_str, eqO_bl, it_tup, it_lst, it_str, intOf_int, zip_tup, zip_lst, rng1_int, rng2_int, cut_tup, cut_lst, set0, setS, bindT1, bindT2, bindP2, ok_pr, sq_lst, sq_own, sq_tup, idx_t, idx_l, idx_o, lam_pur, lam_err, try_pur, try_err, hdR_cons, raise_bnd, enu_tup, sets2, wipe1, wipe2, app_own, frz_own, lstK_lst, isStr_str, enu_lst, map_s, map_n, ofO_n, Bool.false_and]
      | true =>
        simp only [ev_var, ev_lit, ev_con, ev_tup, ev_lst, ev_un, ev_bi, ev_ch, ev_not, ev_and, ev_or, ev_ite, ev_cut, ev_call, ev_cel, ev_at0, ev_meth, ev_dct, ev_get2, ev_idx, ev_lam, evL_nil, evL_cons, evO_nil, evO_val, evC_nil, evC_val, itr_val, itr_rng1, itr_rng2, itr_zip, ex_nil, ex_cons, ex_skip, ex_set, ex_own, ex_frz, ex_unp, ex_par, ex_app, ex_put, ex_bad, ex_rse, ex_rsf, ex_try, itr_enu, ex_ret, ex_drop, ex_ite, bnd_assoc, fit_non, fit_bl, fit_int, fit_str, fitL_nil, fitL_cons, eq_ii, eq_ss, eq_bb, List.any_cons, List.any_nil, Bool.or_false, Bool.and_self, Bool.and_true, Bool.true_and, slot0, slotS, ofO_some, some_bnd, pur_bnd, non_bnd, noE_pur, asBl_bl, bnd_ite, if_bl, if_true, if_false, Bool.false_eq_true, Bool.not_true, Bool.not_false, reduceIte, pyAt0, pyAt1, pyAt2, pyAt3, List.getElem?_cons_zero, List.getElem?_cons_succ, u_isStr_non, u_isStr_bl, u_isStr_int, u_isStr_str, u_isStr_tup, u_isStr_lst, u_isStr_own, u_isTup_non, u_isTup_bl, u_isTup_int, u_isTup_str, u_isTup_tup, u_isTup_lst, u_isTup_own, u_isInt_non, u_isInt_bl, u_isInt_int, u_isInt_str, u_isInt_tup, u_isInt_lst, u_isInt_own, u_isBl_non, u_isBl_bl, u_isBl_int, u_isBl_str, u_isBl_tup, u_isBl_lst, u_isBl_own, u_isLst_non, u_isLst_bl, u_isLst_int, u_isLst_str, u_isLst_tup, u_isLst_lst, u_isLst_own, ok_non, ok_bl, ok_int, ok_str, ok_tup, ok_lst, ok_own, ok_ref, u_len_str, u_len_tup, u_len_lst, u_len_own, u_int_int, u_neg_int, u_tuple_tup, u_list_tup, u_tuple_lst, u_list_lst, u_tuple_own, u_list_own, u_rev_tup, u_rev_lst, b_add_int, b_sub_int, b_add_tup, b_add_str, b_add_lst, b_mul_int, b_mod_int, b_fdiv_int, b_eq, b_ne, b_lt_int, b_lt_str, b_le_int, b_le_str, b_gt_int, b_gt_str, b_ge_int, b_ge_str, b_in_tup, b_in_lst, b_nin_tup, b_in_str, b_nin_str, b_is_bl, b_isn_bl, b_ix_tup, b_ix_lst, b_ix_str, eqO_int, eqO_str, eqO_bl, it_tup, it_lst, it_str, intOf_int, zip_tup, zip_lst, rng1_int, rng2_int, cut_tup, cut_lst, set0, setS, bindT1, bindT2, bindP2, ok_pr, sq_lst, sq_own, sq_tup, idx_t, idx_l, idx_o, lam_pur, lam_err, try_pur, try_err, hdR_cons, raise_bnd, enu_tup, sets2, wipe1, wipe2, app_own, frz_own, lstK_lst, isStr_str, enu_lst, map_s, map_n, ofO_n]
        cases b with
        | tup vs =>
          obtain ⟨n, rfl⟩ := sm_pos hb
          obtain ⟨_, hvs⟩ := sm_tup.mp hb
          simp only [ev_var, ev_lit, ev_con, ev_tup, ev_lst, ev_un, ev_bi, ev_ch, ev_not, ev_and, ev_or, ev_ite, ev_cut, ev_call, ev_cel, ev_at0, ev_meth, ev_dct, ev_get2, ev_idx, ev_lam, evL_nil, evL_cons, evO_nil, evO_val, evC_nil, evC_val, itr_val, itr_rng1, itr_rng2, itr_zip, ex_nil, ex_cons, ex_skip, ex_set, ex_own, ex_frz, ex_unp, ex_par, ex_app, ex_put, ex_bad, ex_rse, ex_rsf, ex_try, itr_enu, ex_ret, ex_drop, ex_ite, bnd_assoc, fit_non, fit_bl, fit_int, fit_str, fitL_nil, fitL_cons, eq_ii, eq_ss, eq_bb, List.any_cons, List.any_nil, Bool.or_false, Bool.and_self, Bool.and_true, Bool.true_and, slot0, slotS, ofO_some, some_bnd, pur_bnd, non_bnd, noE_pur, asBl_bl, bnd_ite, if_bl, if_true, if_false, Bool.false_eq_true, Bool.not_true, Bool.not_false, reduceIte, pyAt0, pyAt1, pyAt2, pyAt3, List.getElem?_cons_zero, List.getElem?_cons_succ, u_isStr_non, u_isStr_bl, u_isStr_int, u_isStr_str, u_isStr_tup, u_isStr_lst, u_isStr_own, u_isTup_non, u_isTup_bl, u_isTup_int, u_isTup_str, u_isTup_tup, u_isTup_lst, u_isTup_own, u_isInt_non, u_isInt_bl, u_isInt_int, u_isInt_str, u_isInt_tup, u_isInt_lst, u_isInt_own, u_isBl_non, u_isBl_bl, u_isBl_int, u_isBl_str, u_isBl_tup, u_isBl_lst, u_isBl_own, u_isLst_non, u_isLst_bl, u_isLst_int, u_isLst_str, u_isLst_tup, u_isLst_lst, u_isLst_own, ok_non, ok_bl, ok_int, ok_str, ok_tup, ok_lst, ok_own, ok_ref, u_len_str, u_len_tup, u_len_lst, u_len_own, u_int_int, u_neg_int, u_tuple_tup, u_list_tup, u_tuple_lst, u_list_lst, u_tuple_own, u_list_own, u_rev_tup, u_rev_lst, b_add_int, b_sub_int, b_add_tup, b_add_str, b_add_lst, b_mul_int, b_mod_int, b_fdiv_int, b_eq, b_ne, b_lt_int, b_lt_str, b_le_int, b_le_str, b_gt_int, b_gt_str, b_ge_int, b_ge_str, b_in_tup, b_in_lst, b_nin_tup, b_in_str, b_nin_str, b_is_bl, b_isn_bl, b_ix_tup, b_ix_lst, b_ix_str, eqO_int, eqO_str, eqO_bl, it_tup, it_lst, it_str, intOf_int, zip_tup, zip_lst, rng1_int, rng2_int, cut_tup, cut_lst, set0, setS, bindT1, bindT2, bindP2, ok_pr, sq_lst, sq_own, sq_tup, idx_t, idx_l, idx_o, lam_pur, lam_err, try_pur, try_err, hdR_cons, raise_bnd, enu_tup, sets2, wipe1, wipe2, app_own, frz_own, lstK_lst, isStr_str, enu_lst, map_s, map_n, ofO_n, c2, c4, vals_tup]
          by_cases h2 : 2 ≤ vs.length
          · by_cases h4 : vs.length ≤ 4
            · simp only [h2, h4, and_self, decide_true, ev_var, ev_lit, ev_con, ev_tup, ev_lst, ev_un, ev_bi, ev_ch, ev_not, ev_and, ev_or, ev_ite, ev_cut, ev_call, ev_cel, ev_at0, ev_meth, ev_dct, ev_get2, ev_idx, ev_lam, evL_nil, evL_cons, evO_nil, evO_val, evC_nil, evC_val, itr_val, itr_rng1, itr_rng2, itr_zip, ex_nil, ex_cons, ex_skip, ex_set, ex_own, ex_frz, ex_unp, ex_par, ex_app, ex_put, ex_bad, ex_rse, ex_rsf, ex_try, itr_enu, ex_ret, ex_drop, ex_ite, bnd_assoc, fit_non, fit_bl, fit_int, fit_str, fitL_nil, fitL_cons, eq_ii, eq_ss, eq_bb, List.any_cons, List.any_nil, Bool.or_false, Bool.and_self, Bool.and_true, Bool.true_and, slot0, slotS, ofO_some, some_bnd, pur_bnd, non_bnd, noE_pur, asBl_bl, bnd_ite, if_bl, if_true, if_false, Bool.false_eq_true, Bool.not_true, Bool.not_false, reduceIte, pyAt0, pyAt1, pyAt2, pyAt3, List.getElem?_cons_zero, List.getElem?_cons_succ, u_isStr_non, u_isStr_bl, u_isStr_int, u_isStr_str, u_isStr_tup, u_isStr_lst, u_isStr_own, u_isTup_non, u_isTup_bl, u_isTup_int, u_isTup_str, u_isTup_tup, u_isTup_lst, u_isTup_own, u_isInt_non, u_isInt_bl, u_isInt_int, u_isInt_str, u_isInt_tup, u_isInt_lst, u_isInt_own, u_isBl_non, u_isBl_bl, u_isBl_int, u_isBl_str, u_isBl_tup, u_isBl_lst, u_isBl_own, u_isLst_non, u_isLst_bl, u_isLst_int, u_isLst_str, u_isLst_tup, u_isLst_lst, u_isLst_own, ok_non, ok_bl, ok_int, ok_str, ok_tup, ok_lst, ok_own, ok_ref, u_len_str, u_len_tup, u_len_lst, u_len_own, u_int_int, u_neg_int, u_tuple_tup, u_list_tup, u_tuple_lst, u_list_lst, u_tuple_own, u_list_own, u_rev_tup, u_rev_lst, b_add_int, b_sub_int, b_add_tup, b_add_str, b_add_lst, b_mul_int, b_mod_int, b_fdiv_int, b_eq, b_ne, b_lt_int, b_lt_str, b_le_int, b_le_str, b_gt_int, b_gt_str, b_ge_int, b_ge_str, b_in_tup, b_in_lst, b_nin_tup, b_in_str, b_nin_str, b_is_bl, b_isn_bl, b_ix_tup, b_ix_lst, b_ix_str, eqO_int, eqO_str, eqO_bl, it_tup, it_lst, it_str, intOf_int, zip_tup, zip_lst, rng1_int, rng2_int, cut_tup, cut_lst, set0, setS, bindT1, bindT2, bindP2, ok_pr, sq_lst, sq_own, sq_tup, idx_t, idx_l, idx_o, lam_pur, lam_err, try_pur, try_err, hdR_cons, raise_bnd, enu_tup, sets2, wipe1, wipe2, app_own, frz_own, lstK_lst, isStr_str, enu_lst, map_s, map_n, ofO_n]
              refine comp_map_k vs (fun x => x) (fun x => .bl (isLabel x)) ?_ ?_ ?_
              · simp only [ev_var, ev_lit, ev_con, ev_tup, ev_lst, ev_un, ev_bi, ev_ch, ev_not, ev_and, ev_or, ev_ite, ev_cut, ev_call, ev_cel, ev_at0, ev_meth, ev_dct, ev_get2, ev_idx, ev_lam, evL_nil, evL_cons, evO_nil, evO_val, evC_nil, evC_val, itr_val, itr_rng1, itr_rng2, itr_zip, ex_nil, ex_cons, ex_skip, ex_set, ex_own, ex_frz, ex_unp, ex_par, ex_app, ex_put, ex_bad, ex_rse, ex_rsf, ex_try, itr_enu, ex_ret, ex_drop, ex_ite, bnd_assoc, fit_non, fit_bl, fit_int, fit_str, fitL_nil, fitL_cons, eq_ii, eq_ss, eq_bb, List.any_cons, List.any_nil, Bool.or_false, Bool.and_self, Bool.and_true, Bool.true_and, slot0, slotS, ofO_some, some_bnd, pur_bnd, non_bnd, noE_pur, asBl_bl, bnd_ite, if_bl, if_true, if_false, Bool.false_eq_true, Bool.not_true, Bool.not_false, reduceIte, pyAt0, pyAt1, pyAt2, pyAt3, List.getElem?_cons_zero, List.getElem?_cons_succ, u_isStr_non, u_isStr_bl, u_isStr_int, u_isStr_str, u_isStr_tup, u_isStr_lst, u_isStr_own, u_isTup_non, u_isTup_bl, u_isTup_int, u_isTup_str, u_isTup_tup, u_isTup_lst, u_isTup_own, u_isInt_non, u_isInt_bl, u_isInt_int, u_isInt_str, u_isInt_tup, u_isInt_lst, u_isInt_own, u_isBl_non, u_isBl_bl, u_isBl_int, u_isBl_str, u_isBl_tup, u_isBl_lst, u_isBl_own, u_isLst_non, u_isLst_bl, u_isLst_int, u_isLst_str, u_isLst_tup, u_isLst_lst, u_isLst_own, ok_non, ok_bl, ok_int, ok_str, ok_tup, ok_lst, ok_own, ok_ref, u_len_str, u_len_tup, u_len_lst, u_len_own, u_int_int, u_neg_int, u_tuple_tup, u_list_tup, u_tuple_lst, u_list_lst, u_tuple_own, u_list_own, u_rev_tup, u_rev_lst, b_add_int, b_sub_int, b_add_tup, b_add_str, b_add_lst, b_mul_int, b_mod_int, b_fdiv_int, b_eq, b_ne, b_lt_int, b_lt_str, b_le_int, b_le_str, b_gt_int, b_gt_str, b_ge_int, b_ge_str, b_in_tup, b_in_lst, b_nin_tup, b_in_str, b_nin_str, b_is_bl, b_isn_bl, b_ix_tup, b_ix_lst, b_ix_str, eqO_int, eqO_str, eqO_bl, it_tup, it_lst, it_str, intOf_int, zip_tup, zip_lst, rng1_int, rng2_int, cut_tup, cut_lst, set0, setS, bindT1, bindT2, bindP2, ok_pr, sq_lst, sq_own, sq_tup, idx_t, idx_l, idx_o, lam_pur, lam_err, try_pur, try_err, hdR_cons, raise_bnd, enu_tup, sets2, wipe1, wipe2, app_own, frz_own, lstK_lst, isStr_str, enu_lst, map_s, map_n, ofO_n, map_self]
              · intro x hx
                have := r0 k x (hvs x hx)
                simp only [ev_var, ev_lit, ev_con, ev_tup, ev_lst, ev_un, ev_bi, ev_ch, ev_not, ev_and, ev_or, ev_ite, ev_cut, ev_call, ev_cel, ev_at0, ev_meth, ev_dct, ev_get2, ev_idx, ev_lam, evL_nil, evL_cons, evO_nil, evO_val, evC_nil, evC_val, itr_val, itr_rng1, itr_rng2, itr_zip, ex_nil, ex_cons, ex_skip, ex_set, ex_own, ex_frz, ex_unp, ex_par, ex_app, ex_put, ex_bad, ex_rse, ex_rsf, ex_try, itr_enu, ex_ret, ex_drop, ex_ite, bnd_assoc, fit_non, fit_bl, fit_int, fit_str, fitL_nil, fitL_cons, eq_ii, eq_ss, eq_bb, List.any_cons, List.any_nil, Bool.or_false, Bool.and_self, Bool.and_true, Bool.true_and, slot0, slotS, ofO_some, some_bnd, pur_bnd, non_bnd, noE_pur, asBl_bl, bnd_ite, if_bl, if_true, if_false, Bool.false_eq_true, Bool.not_true, Bool.not_false, reduceIte, pyAt0, pyAt1, pyAt2, pyAt3, List.getElem?_cons_zero, List.getElem?_cons_succ, u_isStr_non, u_isStr_bl, u_isStr_int, u_isStr_str, u_isStr_tup, u_isStr_lst, u_isStr_own, u_isTup_non, u_isTup_bl, u_isTup_int, u_isTup_str, u_isTup_tup, u_isTup_lst, u_isTup_own, u_isInt_non, u_isInt_bl, u_isInt_int, u_isInt_str, u_isInt_tup, u_isInt_lst, u_isInt_own, u_isBl_non, u_isBl_bl, u_isBl_int, u_isBl_str, u_isBl_tup, u_isBl_lst, u_isBl_own, u_isLst_non, u_isLst_bl, u_isLst_int, u_isLst_str, u_isLst_tup, u_isLst_lst, u_isLst_own, ok_non, ok_bl, ok_int, ok_str, ok_tup, ok_lst, ok_own, ok_ref, u_len_str, u_len_tup, u_len_lst, u_len_own, u_int_int, u_neg_int, u_tuple_tup, u_list_tup, u_tuple_lst, u_list_lst, u_tuple_own, u_list_own, u_rev_tup, u_rev_lst, b_add_int, b_sub_int, b_add_tup, b_add_str, b_add_lst, b_mul_int, b_mod_int, b_fdiv_int, b_eq, b_ne, b_lt_int, b_lt_str, b_le_int, b_le_str, b_gt_int, b_gt_str, b_ge_int, b_ge_str, b_in_tup, b_in_lst, b_nin_tup, b_in_str, b_nin_str, b_is_bl, b_isn_bl, b_ix_tup, b_ix_lst, b_ix_str, eqO_int, eqO_str, eqO_bl, it_tup, it_lst, it_str, intOf_int, zip_tup, zip_lst, rng1_int, rng2_int, cut_tup, cut_lst, set0, setS, bindT1, bindT2, bindP2, ok_pr, sq_lst, sq_own, sq_tup, idx_t, idx_l, idx_o, lam_pur, lam_err, try_pur, try_err, hdR_cons, raise_bnd, enu_tup, sets2, wipe1, wipe2, app_own, frz_own, lstK_lst, isStr_str, enu_lst, map_s, map_n, ofO_n, sm_ok (hvs x hx), this]
              · simp only [ev_var, ev_lit, ev_con, ev_tup, ev_lst, ev_un, ev_bi, ev_ch, ev_not, ev_and, ev_or, ev_ite, ev_cut, ev_call, ev_cel, ev_at0, ev_meth, ev_dct, ev_get2, ev_idx, ev_lam, evL_nil, evL_cons, evO_nil, evO_val, evC_nil, evC_val, itr_val, itr_rng1, itr_rng2, itr_zip, ex_nil, ex_cons, ex_skip, ex_set, ex_own, ex_frz, ex_unp, ex_par, ex_app, ex_put, ex_bad, ex_rse, ex_rsf, ex_try, itr_enu, ex_ret, ex_drop, ex_ite, bnd_assoc, fit_non, fit_bl, fit_int, fit_str, fitL_nil, fitL_cons, eq_ii, eq_ss, eq_bb, List.any_cons, List.any_nil, Bool.or_false, Bool.and_self, Bool.and_true, Bool.true_and, slot0, slotS, ofO_some, some_bnd, pur_bnd, non_bnd, noE_pur, asBl_bl, bnd_ite, if_bl, if_true, if_false, Bool.false_eq_true, Bool.not_true, Bool.not_false, reduceIte, pyAt0, pyAt1, pyAt2, pyAt3, List.getElem?_cons_zero, List.getElem?_cons_succ, u_isStr_non, u_isStr_bl, u_isStr_int, u_isStr_str, u_isStr_tup, u_isStr_lst, u_isStr_own, u_isTup_non, u_isTup_bl, u_isTup_int, u_isTup_str, u_isTup_tup, u_isTup_lst, u_isTup_own, u_isInt_non, u_isInt_bl, u_isInt_int, u_isInt_str, u_isInt_tup, u_isInt_lst, u_isInt_own, u_isBl_non, u_isBl_bl, u_isBl_int, u_isBl_str, u_isBl_tup, u_isBl_lst, u_isBl_own, u_isLst_non, u_isLst_bl, u_isLst_int, u_isLst_str, u_isLst_tup, u_isLst_lst, u_isLst_own, ok_non, ok_bl, ok_int, ok_str, ok_tup, ok_lst, ok_own, ok_ref, u_len_str, u_len_tup, u_len_lst, u_len_own, u_int_int, u_neg_int, u_tuple_tup, u_list_tup, u_tuple_lst, u_list_lst, u_tuple_own, u_list_own, u_rev_tup, u_rev_lst, b_add_int, b_sub_int, b_add_tup, b_add_str, b_add_lst, b_mul_int, b_mod_int, b_fdiv_int, b_eq, b_ne, b_lt_int, b_lt_str, b_le_int, b_le_str, b_gt_int, b_gt_str, b_ge_int, b_ge_str, b_in_tup, b_in_lst, b_nin_tup, b_in_str, b_nin_str, b_is_bl, b_isn_bl, b_ix_tup, b_ix_lst, b_ix_str, eqO_int, eqO_str, eqO_bl, it_tup, it_lst, it_str, intOf_int, zip_tup, zip_lst, rng1_int, rng2_int, cut_tup, cut_lst, set0, setS, bindT1, bindT2, bindP2, ok_pr, sq_lst, sq_own, sq_tup, idx_t, idx_l, idx_o, lam_pur, lam_err, try_pur, try_err, hdR_cons, raise_bnd, enu_tup, sets2, wipe1, wipe2, app_own, frz_own, lstK_lst, isStr_str, enu_lst, map_s, map_n, ofO_n, u_all_map]
                cases hal : vs.all isLabel with
                | false => simp only [ev_var, ev_lit, ev_con, ev_tup, ev_lst, ev_un, ev_bi, ev_ch, ev_not, ev_and, ev_or, ev_ite, ev_cut, ev_call, ev_cel, ev_at0, ev_meth, ev_dct, ev_get2, ev_idx, ev_lam, evL_nil, evL_cons, evO_nil, evO_val, evC_nil, evC_val, itr_val, itr_rng1, itr_rng2, itr_zip, ex_nil, ex_cons, ex_skip, ex_set, ex_own, ex_frz, ex_unp, ex_par, ex_app, ex_put, ex_bad, ex_rse, ex_rsf, ex_try, itr_enu, ex_ret, ex_drop, ex_ite, bnd_assoc, fit_non, fit_bl, fit_int, fit_str, fitL_nil, fitL_cons, eq_ii, eq_ss, eq_bb, List.any_cons, List.any_nil, Bool.or_false, Bool.and_self, Bool.and_true, Bool.true_and, slot0, slotS, ofO_some, some_bnd, pur_bnd, non_bnd, noE_pur, asBl_bl, bnd_ite, if_bl, if_true, if_false, Bool.false_eq_true, Bool.not_true, Bool.not_false, reduceIte, pyAt0, pyAt1, pyAt2, pyAt3, List.getElem?_cons_zero, List.getElem?_cons_succ, u_isStr_non, u_isStr_bl, u_isStr_int, u_isStr_str, u_isStr_tup, u_isStr_lst, u_isStr_own, u_isTup_non, u_isTup_bl, u_isTup_int, u_isTup_str, u_isTup_tup, u_isTup_lst, u_isTup_own, u_isInt_non, u_isInt_bl, u_isInt_int, u_isInt_str, u_isInt_tup, u_isInt_lst, u_isInt_own, u_isBl_non, u_isBl_bl, u_isBl_int, u_isBl_str, u_isBl_tup, u_isBl_lst, u_isBl_own, u_isLst_non, u_isLst_bl, u_isLst_int, u_isLst_str, u_isLst_tup, u_isLst_lst, u_isLst_own, ok_non, ok_bl, ok_int, ok_str, ok_tup, ok_lst, ok_own, ok_ref, u_len_str, u_len_tup, u_len_lst, u_len_own, u_int_int, u_neg_int, u_tuple_tup, u_list_tup, u_tuple_lst, u_list_lst, u_tuple_own, u_list_own, u_rev_tup, u_rev_lst, b_add_int, b_sub_int, b_add_tup, b_add_str, b_add_lst, b_mul_int, b_mod_int, b_fdiv_int, b_eq, b_ne, b_lt_int, b_lt_str, b_le_int, b_le_str, b_gt_int, b_gt_str, b_ge_int, b_ge_str, b_in_tup, b_in_lst, b_nin_tup, b_in_str, b_nin_str, b_is_bl, b_isn_bl, b_ix_tup, b_ix_lst, b_ix_str, eqO_int, eqO_str, eqO_bl, it_tup, it_lst, it_str, intOf_int, zip_tup, zip_lst, rng1_int, rng2_int, cut_tup, cut_lst, set0, setS, bindT1, bindT2, bindP2, ok_pr, sq_lst, sq_own, sq_tup, idx_t, idx_l, idx_o, lam_pur, lam_err, try_pur, try_err, hdR_cons, raise_bnd, enu_tup, sets2, wipe1, wipe2, app_own, frz_own, lstK_lst, isStr_str, enu_lst, map_s, map_n, ofO_n, Bool.false_and]
                | true =>
                  have h1 := r1 k (vs.map strOf) (.tup vs) (.inl (by rw [← labs_of hal])) (by rw [List.length_map]; omega)
                  simp only [ev_var, ev_lit, ev_con, ev_tup, ev_lst, ev_un, ev_bi, ev_ch, ev_not, ev_and, ev_or, ev_ite, ev_cut, ev_call, ev_cel, ev_at0, ev_meth, ev_dct, ev_get2, ev_idx, ev_lam, evL_nil, evL_cons, evO_nil, evO_val, evC_nil, evC_val, itr_val, itr_rng1, itr_rng2, itr_zip, ex_nil, ex_cons, ex_skip, ex_set, ex_own, ex_frz, ex_unp, ex_par, ex_app, ex_put, ex_bad, ex_rse, ex_rsf, ex_try, itr_enu, ex_ret, ex_drop, ex_ite, bnd_assoc, fit_non, fit_bl, fit_int, fit_str, fitL_nil, fitL_cons, eq_ii, eq_ss, eq_bb, List.any_cons, List.any_nil, Bool.or_false, Bool.and_self, Bool.and_true, Bool.true_and, slot0, slotS, ofO_some, some_bnd, pur_bnd, non_bnd, noE_pur, asBl_bl, bnd_ite, if_bl, if_true, if_false, Bool.false_eq_true, Bool.not_true, Bool.not_false, reduceIte, pyAt0, pyAt1, pyAt2, pyAt3, List.getElem?_cons_zero, List.getElem?_cons_succ, u_isStr_non, u_isStr_bl, u_isStr_int, u_isStr_str, u_isStr_tup, u_isStr_lst, u_isStr_own, u_isTup_non, u_isTup_bl, u_isTup_int, u_isTup_str, u_isTup_tup, u_isTup_lst, u_isTup_own, u_isInt_non, u_isInt_bl, u_isInt_int, u_isInt_str, u_isInt_tup, u_isInt_lst, u_isInt_own, u_isBl_non, u_isBl_bl, u_isBl_int, u_isBl_str, u_isBl_tup, u_isBl_lst, u_isBl_own, u_isLst_non, u_isLst_bl, u_isLst_int, u_isLst_str, u_isLst_tup, u_isLst_lst, u_isLst_own, ok_non, ok_bl, ok_int, ok_str, ok_tup, ok_lst, ok_own, ok_ref, u_len_str, u_len_tup, u_len_lst, u_len_own, u_int_int, u_neg_int, u_tuple_tup, u_list_tup, u_tuple_lst, u_list_lst, u_tuple_own, u_list_own, u_rev_tup, u_rev_lst, b_add_int, b_sub_int, b_add_tup, b_add_str, b_add_lst, b_mul_int, b_mod_int, b_fdiv_int, b_eq, b_ne, b_lt_int, b_lt_str, b_le_int, b_le_str, b_gt_int, b_gt_str, b_ge_int, b_ge_str, b_in_tup, b_in_lst, b_nin_tup, b_in_str, b_nin_str, b_is_bl, b_isn_bl, b_ix_tup, b_ix_lst, b_ix_str, eqO_int, eqO_str, eqO_bl, it_tup, it_lst, it_str, intOf_int, zip_tup, zip_lst, rng1_int, rng2_int, cut_tup, cut_lst, set0, setS, bindT1, bindT2, bindP2, ok_pr, sq_lst, sq_own, sq_tup, idx_t, idx_l, idx_o, lam_pur, lam_err, try_pur, try_err, hdR_cons, raise_bnd, enu_tup, sets2, wipe1, wipe2, app_own, frz_own, lstK_lst, isStr_str, enu_lst, map_s, map_n, ofO_n, h1]
            · simp only [h2, h4, and_false, decide_true, decide_false, ev_var, ev_lit, ev_con, ev_tup, ev_lst, ev_un, ev_bi, ev_ch, ev_not, ev_and, ev_or, ev_ite, ev_cut, ev_call, ev_cel, ev_at0, ev_meth, ev_dct, ev_get2, ev_idx, ev_lam, evL_nil, evL_cons, evO_nil, evO_val, evC_nil, evC_val, itr_val, itr_rng1, itr_rng2, itr_zip, ex_nil, ex_cons, ex_skip, ex_set, ex_own, ex_frz, ex_unp, ex_par, ex_app, ex_put, ex_bad, ex_rse, ex_rsf, ex_try, itr_enu, ex_ret, ex_drop, ex_ite, bnd_assoc, fit_non, fit_bl, fit_int, fit_str, fitL_nil, fitL_cons, eq_ii, eq_ss, eq_bb, List.any_cons, List.any_nil, Bool.or_false, Bool.and_self, Bool.and_true, Bool.true_and, slot0, slotS, ofO_some, some_bnd, pur_bnd, non_bnd, noE_pur, asBl_bl, bnd_ite, if_bl, if_true, if_false, Bool.false_eq_true, Bool.not_true, Bool.not_false, reduceIte, pyAt0, pyAt1, pyAt2, pyAt3, List.getElem?_cons_zero, List.getElem?_cons_succ, u_isStr_non, u_isStr_bl, u_isStr_int, u_isStr_str, u_isStr_tup, u_isStr_lst, u_isStr_own, u_isTup_non, u_isTup_bl, u_isTup_int, u_isTup_str, u_isTup_tup, u_isTup_lst, u_isTup_own, u_isInt_non, u_isInt_bl, u_isInt_int, u_isInt_str, u_isInt_tup, u_isInt_lst, u_isInt_own, u_isBl_non, u_isBl_bl, u_isBl_int, u_isBl_str, u_isBl_tup, u_isBl_lst, u_isBl_own, u_isLst_non, u_isLst_bl, u_isLst_int, u_isLst_str, u_isLst_tup, u_isLst_lst, u_isLst_own, ok_non, ok_bl, ok_int, ok_str, ok_tup, ok_lst, ok_own, ok_ref, u_len_str, u_len_tup, u_len_lst, u_len_own, u_int_int, u_neg_int, u_tuple_tup, u_list_tup, u_tuple_lst, u_list_lst, u_tuple_own, u_list_own, u_rev_tup, u_rev_lst, b_add_int, b_sub_int, b_add_tup, b_add_str, b_add_lst, b_mul_int, b_mod_int, b_fdiv_int, b_eq, b_ne, b_lt_int, b_lt_str, b_le_int, b_le_str, b_gt_int, b_gt_str, b_ge_int, b_ge_str, b_in_tup, b_in_lst, b_nin_tup, b_in_str, b_nin_str, b_is_bl, b_isn_bl, b_ix_tup, b_ix_lst, b_ix_str, eqO_int, eqO_str, eqO_bl, it_tup, it_lst, it_str, intOf_int, zip_tup, zip_lst, rng1_int, rng2_int, cut_tup, cut_lst, set0, setS, bindT1, bindT2, bindP2, ok_pr, sq_lst, sq_own, sq_tup, idx_t, idx_l, idx_o, lam_pur, lam_err, try_pur, try_err, hdR_cons, raise_bnd, enu_tup, sets2, wipe1, wipe2, app_own, frz_own, lstK_lst, isStr_str, enu_lst, map_s, map_n, ofO_n, Bool.false_and]
          · simp only [h2, false_and, decide_true, decide_false, ev_var, ev_lit, ev_con, ev_tup, ev_lst, ev_un, ev_bi, ev_ch, ev_not, ev_and, ev_or, ev_ite, ev_cut, ev_call, ev_cel, ev_at0, ev_meth, ev_dct, ev_get2, ev_idx, ev_lam, evL_nil, evL_cons, evO_nil, evO_val, evC_nil, evC_val, itr_val, itr_rng1, itr_rng2, itr_zip, ex_nil, ex_cons, ex_skip, ex_set, ex_own, ex_frz, ex_unp, ex_par, ex_app, ex_put, ex_bad, ex_rse, ex_rsf, ex_try, itr_enu, ex_ret, ex_drop, ex_ite, bnd_assoc, fit_non, fit_bl, fit_int, fit_str, fitL_nil, fitL_cons, eq_ii, eq_ss, eq_bb, List.any_cons, List.any_nil, Bool.or_false, Bool.and_self, Bool.and_true, Bool.true_and, slot0, slotS, ofO_some, some_bnd, pur_bnd, non_bnd, noE_pur, asBl_bl, bnd_ite, if_bl, if_true, if_false, Bool.false_eq_true, Bool.not_true, Bool.not_false, reduceIte, pyAt0, pyAt1, pyAt2, pyAt3, List.getElem?_cons_zero, List.getElem?_cons_succ, u_isStr_non, u_isStr_bl, u_isStr_int, u_isStr_str, u_isStr_tup, u_isStr_lst, u_isStr_own, u_isTup_non, u_isTup_bl, u_isTup_int, u_isTup_str, u_isTup_tup, u_isTup_lst, u_isTup_own, u_isInt_non, u_isInt_bl, u_isInt_int, u_isInt_str, u_isInt_tup, u_isInt_lst, u_isInt_own, u_isBl_non, u_isBl_bl, u_isBl_int, u_isBl_str, u_isBl_tup, u_isBl_lst, u_isBl_own, u_isLst_non, u_isLst_bl, u_isLst_int, u_isLst_str, u_isLst_tup, u_isLst_lst, u_isLst_own, ok_non, ok_bl, ok_int, ok_str, ok_tup, ok_lst, ok_own, ok_ref, u_len_str, u_len_tup, u_len_lst, u_len_own, u_int_int, u_neg_int, u_tuple_tup, u_list_tup, u_tuple_lst, u_list_lst, u_tuple_own, u_list_own, u_rev_tup, u_rev_lst, b_add_int, b_sub_int, b_add_tup, b_add_str, b_add_lst, b_mul_int, b_mod_int, b_fdiv_int, b_eq, b_ne, b_lt_int, b_lt_str, b_le_int, b_le_str, b_gt_int, b_gt_str, b_ge_int, b_ge_str, b_in_tup, b_in_lst, b_nin_tup, b_in_str, b_nin_str, b_is_bl, b_isn_bl, b_ix_tup, b_ix_lst, b_ix_str, eqO_int, eqO_str, eqO_bl, it_tup, it_lst, it_str, intOf_int, zip_tup, zip_lst, rng1_int, rng2_int, cut_tup, cut_lst, set0, setS, bindT1, bindT2, bindP2, ok_pr, sq_lst, sq_own, sq_tup, idx_t, idx_l, idx_o, lam_pur, lam_err, try_pur, try_err, hdR_cons, raise_bnd, enu_tup, sets2, wipe1, wipe2, app_own, frz_own, lstK_lst, isStr_str, enu_lst, map_s, map_n, ofO_n, Bool.false_and]
        | own l => cases n <;> cases hb
        | ref l => cases n <;> cases hb
        | pr a b => cases n <;> cases hb
        | _ => simp only [ev_var, ev_lit, ev_con, ev_tup, ev_lst, ev_un, ev_bi, ev_ch, ev_not, ev_and, ev_or, ev_ite, ev_cut, ev_call, ev_cel, ev_at0, ev_meth, ev_dct, ev_get2, ev_idx, ev_lam, evL_nil, evL_cons, evO_nil, evO_val, evC_nil, evC_val, itr_val, itr_rng1, itr_rng2, itr_zip, ex_nil, ex_cons, ex_skip, ex_set, ex_own, ex_frz, ex_unp, ex_par, ex_app, ex_put, ex_bad, ex_rse, ex_rsf, ex_try, itr_enu, ex_ret, ex_drop, ex_ite, bnd_assoc, fit_non, fit_bl, fit_int, fit_str, fitL_nil, fitL_cons, eq_ii, eq_ss, eq_bb, List.any_cons, List.any_nil, Bool.or_false, Bool.and_self, Bool.and_true, Bool.true_and, slot0, slotS, ofO_some, some_bnd, pur_bnd, non_bnd, noE_pur, asBl_bl, bnd_ite, if_bl, if_true, if_false, Bool.false_eq_true, Bool.not_true, Bool.not_false, reduceIte, pyAt0, pyAt1, pyAt2, pyAt3, List.getElem?_cons_zero, List.getElem?_cons_succ, u_isStr_non, u_isStr_bl, u_isStr_int, u_isStr_str, u_isStr_tup, u_isStr_lst, u_isStr_own, u_isTup_non, u_isTup_bl, u_isTup_int, u_isTup_str, u_isTup_tup, u_isTup_lst, u_isTup_own, u_isInt_non, u_isInt_bl, u_isInt_int, u_isInt_str, u_isInt_tup, u_isInt_lst, u_isInt_own, u_isBl_non, u_isBl_bl, u_isBl_int, u_isBl_str, u_isBl_tup, u_isBl_lst, u_isBl_own, u_isLst_non, u_isLst_bl, u_isLst_int, u_isLst_str, u_isLst_tup, u_isLst_lst, u_isLst_own, ok_non, ok_bl, ok_int, ok_str, ok_tup, ok_lst, ok_own, ok_ref, u_len_str, u_len_tup, u_len_lst, u_len_own, u_int_int, u_neg_int, u_tuple_tup, u_list_tup, u_tuple_lst, u_list_lst, u_tuple_own, u_list_own, u_rev_tup, u_rev_lst, b_add_int, b_sub_int, b_add_tup, b_add_str, b_add_lst, b_mul_int, b_mod_int, b_fdiv_int, b_eq, b_ne, b_lt_int, b_lt_str, b_le_int, b_le_str, b_gt_int, b_gt_str, b_ge_int, b_ge_str, b_in_tup, b_in_lst, b_nin_tup, b_in_str, b_nin_str, b_is_bl, b_isn_bl, b_ix_tup, b_ix_lst, b_ix_str, eqO_int, eqO_str, eqO_bl, it_tup, it_lst, it_str, intOf_int, zip_tup, zip_lst, rng1_int, rng2_int, cut_tup, cut_lst, set0, setS, bindT1, bindT2, bindP2, ok_pr, sq_lst, sq_own, sq_tup, idx_t, idx_l, idx_o, lam_pur, lam_err, try_pur, try_err, hdR_cons, raise_bnd, enu_tup, sets2, wipe1, wipe2, app_own, frz_own, lstK_lst, isStr_str, enu_lst, map_s, map_n, ofO_n, isVals]
    · simp only [ev_var, ev_lit, ev_con, ev_tup, ev_lst, ev_un, ev_bi, ev_ch, ev_not, ev_and, ev_or, ev_ite, ev_cut, ev_call, ev_cel, ev_at0, ev_meth, ev_dct, ev_get2, ev_idx, ev_lam, evL_nil, evL_cons, evO_nil, evO_val, evC_nil, evC_val, itr_val, itr_rng1, itr_rng2, itr_zip, ex_nil, ex_cons, ex_skip, ex_set, ex_own, ex_frz, ex_unp, ex_par, ex_app, ex_put, ex_bad, ex_rse, ex_rsf, ex_try, itr_enu, ex_ret, ex_drop, ex_ite, bnd_assoc, fit_non, fit_bl, fit_int, fit_str, fitL_nil, fitL_cons, eq_ii, eq_ss, eq_bb, List.any_cons, List.any_nil, Bool.or_false, Bool.and_self, Bool.and_true, Bool.true_and, slot0, slotS, ofO_some, some_bnd, pur_bnd, non_bnd, noE_pur, asBl_bl, bnd_ite, if_bl, if_true, if_false, Bool.false_eq_true, Bool.not_true, Bool.not_false, reduceIte, pyAt0, pyAt1, pyAt2, pyAt3, List.getElem?_cons_zero, List.getElem?_cons_succ, u_isStr_non, u_isStr_bl, u_isStr_int, u_isStr_str, u_isStr_tup, u_isStr_lst, u_isStr_own, u_isTup_non, u_isTup_bl, u_isTup_int, u_isTup_str, u_isTup_tup, u_isTup_lst, u_isTup_own, u_isInt_non, u_isInt_bl, u_isInt_int, u_isInt_str, u_isInt_tup, u_isInt_lst, u_isInt_own, u_isBl_non, u_isBl_bl, u_isBl_int, u_isBl_str, u_isBl_tup, u_isBl_lst, u_isBl_own, u_isLst_non, u_isLst_bl, u_isLst_int, u_isLst_str, u_isLst_tup, u_isLst_lst, u_isLst_own, ok_non, ok_bl, ok_int, ok_str, ok_tup, ok_lst, ok_own, ok_ref, u_len_str, u_len_tup, u_len_lst, u_len_own, u_int_int, u_neg_int, u_tuple_tup, u_list_tup, u_tuple_lst, u_list_lst, u_tuple_own, u_list_own, u_rev_tup, u_rev_lst, b_add_int, b_sub_int, b_add_tup, b_add_str, b_add_lst, b_mul_int, b_mod_int, b_fdiv_int, b_eq, b_ne, b_lt_int, b_lt_str, b_le_int, b_le_str, b_gt_int, b_gt_str, b_ge_int, b_ge_str, b_in_tup, b_in_lst, b_nin_tup, b_in_str, b_nin_str, b_is_bl, b_isn_bl, b_ix_tup, b_ix_lst, b_ix_str, eqO_int, eqO_str, eqO_bl, it_tup, it_lst, it_str, intOf_int, zip_tup, zip_lst, rng1_int, rng2_int, cut_tup, cut_lst, set0, setS, bindT1, bindT2, bindP2, ok_pr, sq_lst, sq_own, sq_tup, idx_t, idx_l, idx_o, lam_pur, lam_err, try_pur, try_err, hdR_cons, raise_bnd, enu_tup, sets2, wipe1, wipe2, app_own, frz_own, lstK_lst, isStr_str, enu_lst, map_s, map_n, ofO_n, beq2, hl, decide_false, field_not hl]
  | own l => cases n <;> cases hv
  | ref l => cases n <;> cases hv
  | pr a b => cases n <;> cases hv
  | _ => rfl
def valsOf : D → List D
  | .tup [_, .tup vs] => vs
  | _ => []
def nameOf : D → List Nat
  | .tup [a, _] => strOf a
  | _ => []
def items : D → List D
  | .tup l => l
  | _ => []
def many (fs : List D) : Int := fs.foldl (fun r f => r * ((valsOf f).length : Int)) 1
def areFields : D → Bool
  | .tup fs => decide (1 ≤ fs.length ∧ fs.length ≤ 2) && (fs.all isField && (decide (many fs ≤ 6) && climbs (fs.map nameOf)))
  | _ => false
theorem fields_tup {fs : List D} : areFields (.tup fs) = (decide (1 ≤ fs.length ∧ fs.length ≤ 2) && (fs.all isField && (decide (many fs ≤ 6) && climbs (fs.map nameOf)))) := rfl
theorem field_of {d : D} (h : isField d = true) : ∃ s vs, d = .tup [.str s, .tup vs] ∧ 2 ≤ vs.length ∧ vs.length ≤ 4 ∧ vs.all isLabel = true := by
  cases d with
  | tup l =>
    by_cases hl : l.length = 2
    · obtain ⟨a, b, rfl⟩ := len2 hl
      rw [field_tup] at h
      obtain ⟨h1, h2⟩ := band h
      cases b with
      | tup vs =>
        obtain ⟨h3, h4⟩ := band h2
        obtain ⟨h5, h6⟩ := of_decide_eq_true h3
        exact ⟨strOf a, vs, by rw [← lab_of h1], h5, h6, (band h4).1⟩
      | _ => cases h2
    · rw [field_not hl] at h; cases h
  | _ => cases h
theorem mulOk {i : Int} {n : Nat} (h : n ≤ 4) : ((-big < i ∧ i < big) ∨ (-big < (n : Int) ∧ (n : Int) < big)) = True := by
  apply eq_true
  right
  unfold big
  omega
theorem c2' {n : Nat} : decide ((n : Int) ≤ 2) = decide (n ≤ 2) := decide_eq_decide.mpr (by omega)
theorem con4 : T.C 5 = some (.int 6) := rfl
theorem r3 (k : Nat) {m n : Nat} (v : D) (hv : sm m n v = true) : F (k + 3) 3 [v] = pur (.bl (areFields v)) := by
  rw [F, runF_at (fd := f3) rfl rfl]
  show bnd (exS _ _ b3 [some v, none, none, none]) _ = _
  unfold b3
  cases v with
  | tup fs =>
    obtain ⟨n, rfl⟩ := sm_pos hv
    obtain ⟨_, hfs⟩ := sm_tup.mp hv
    simp only [ev_var, ev_lit, ev_con, ev_tup, ev_lst, ev_un, ev_bi, ev_ch, ev_not, ev_and, ev_or, ev_ite, ev_cut, ev_call, ev_cel, ev_at0, ev_meth, ev_dct, ev_get2, ev_idx, ev_lam, evL_nil, evL_cons, evO_nil, evO_val, evC_nil, evC_val, itr_val, itr_rng1, itr_rng2, itr_zip, ex_nil, ex_cons, ex_skip, ex_set, ex_own, ex_frz, ex_unp, ex_par, ex_app, ex_put, ex_bad, ex_rse, ex_rsf, ex_try, itr_enu, ex_ret, ex_drop, ex_ite, bnd_assoc, fit_non, fit_bl, fit_int, fit_str, fitL_nil, fitL_cons, eq_ii, eq_ss, eq_bb, List.any_cons, List.any_nil, Bool.or_false, Bool.and_self, Bool.and_true, Bool.true_and, slot0, slotS, ofO_some, some_bnd, pur_bnd, non_bnd, noE_pur, asBl_bl, bnd_ite, if_bl, if_true, if_false, Bool.false_eq_true, Bool.not_true, Bool.not_false, reduceIte, pyAt0, pyAt1, pyAt2, pyAt3, List.getElem?_cons_zero, List.getElem?_cons_succ, u_isStr_non, u_isStr_bl, u_isStr_int, u_isStr_str, u_isStr_tup, u_isStr_lst, u_isStr_own, u_isTup_non, u_isTup_bl, u_isTup_int, u_isTup_str, u_isTup_tup, u_isTup_lst, u_isTup_own, u_isInt_non, u_isInt_bl, u_isInt_int, u_isInt_str, u_isInt_tup, u_isInt_lst, u_isInt_own, u_isBl_non, u_isBl_bl, u_isBl_int, u_isBl_str, u_isBl_tup, u_isBl_lst, u_isBl_own, u_isLst_non, u_isLst_bl, u_isLst_int, u_isLst_str, u_isLst_tup, u_isLst_lst, u_isLst_own, ok_non, ok_bl, ok_int, ok_str, ok_tup, ok_lst, ok_own, ok_ref, u_len_str, u_len_tup, u_len_lst, u_len_own, u_int_int, u_neg_int, u_tuple_tup, u_list_tup, u_tuple_lst, u_list_lst, u_tuple_own, u_list_own, u_rev_tup, u_rev_lst, b_add_int, b_sub_int, b_add_tup, b_add_str, b_add_lst, b_mul_int, b_mod_int, b_fdiv_int, b_eq, b_ne, b_lt_int, b_lt_str, b_le_int, b_le_str, b_gt_int, b_gt_str, b_ge_int, b_ge_str, b_in_tup, b_in_lst, b_nin_tup, b_in_str, b_nin_str, b_is_bl, b_isn_bl, b_ix_tup, b_ix_lst, b_ix_str, eqO_int, eqO_str, eqO_bl, it_tup, it_lst, it_str, intOf_int, zip_tup, zip_lst, rng1_int, rng2_int, cut_tup, cut_lst, set0, setS, bindT1, bindT2, bindP2, ok_pr, sq_lst, sq_own, sq_tup, idx_t, idx_l, idx_o, lam_pur, lam_err, try_pur, try_err, hdR_cons, raise_bnd, enu_tup, sets2, wipe1, wipe2, app_own, frz_own, lstK_lst, isStr_str, enu_lst, map_s, map_n, ofO_n, c1, c2', fields_tup]
    by_cases h2 : 1 ≤ fs.length
    · by_cases h4 : fs.length ≤ 2
      · simp only [h2, h4, and_self, decide_true, ev_var, ev_lit, ev_con, ev_tup, ev_lst, ev_un, ev_bi, ev_ch, ev_not, ev_and, ev_or, ev_ite, ev_cut, ev_call, ev_cel, ev_at0, ev_meth, ev_dct, ev_get2, ev_idx, ev_lam, evL_nil, evL_cons, evO_nil, evO_val, evC_nil, evC_val, itr_val, itr_rng1, itr_rng2, itr_zip, ex_nil, ex_cons, ex_skip, ex_set, ex_own, ex_frz, ex_unp, ex_par, ex_app, ex_put, ex_bad, ex_rse, ex_rsf, ex_try, itr_enu, ex_ret, ex_drop, ex_ite, bnd_assoc, fit_non, fit_bl, fit_int, fit_str, fitL_nil, fitL_cons, eq_ii, eq_ss, eq_bb, List.any_cons, List.any_nil, Bool.or_false, Bool.and_self, Bool.and_true, Bool.true_and, slot0, slotS, ofO_some, some_bnd, pur_bnd, non_bnd, noE_pur, asBl_bl, bnd_ite, if_bl, if_true, if_false, Bool.false_eq_true, Bool.not_true, Bool.not_false, reduceIte, pyAt0, pyAt1, pyAt2, pyAt3, List.getElem?_cons_zero, List.getElem?_cons_succ, u_isStr_non, u_isStr_bl, u_isStr_int, u_isStr_str, u_isStr_tup, u_isStr_lst, u_isStr_own, u_isTup_non, u_isTup_bl, u_isTup_int, u_isTup_str, u_isTup_tup, u_isTup_lst, u_isTup_own, u_isInt_non, u_isInt_bl, u_isInt_int, u_isInt_str, u_isInt_tup, u_isInt_lst, u_isInt_own, u_isBl_non, u_isBl_bl, u_isBl_int, u_isBl_str, u_isBl_tup, u_isBl_lst, u_isBl_own, u_isLst_non, u_isLst_bl, u_isLst_int, u_isLst_str, u_isLst_tup, u_isLst_lst, u_isLst_own, ok_non, ok_bl, ok_int, ok_str, ok_tup, ok_lst, ok_own, ok_ref, u_len_str, u_len_tup, u_len_lst, u_len_own, u_int_int, u_neg_int, u_tuple_tup, u_list_tup, u_tuple_lst, u_list_lst, u_tuple_own, u_list_own, u_rev_tup, u_rev_lst, b_add_int, b_sub_int, b_add_tup, b_add_str, b_add_lst, b_mul_int, b_mod_int, b_fdiv_int, b_eq, b_ne, b_lt_int, b_lt_str, b_le_int, b_le_str, b_gt_int, b_gt_str, b_ge_int, b_ge_str, b_in_tup, b_in_lst, b_nin_tup, b_in_str, b_nin_str, b_is_bl, b_isn_bl, b_ix_tup, b_ix_lst, b_ix_str, eqO_int, eqO_str, eqO_bl, it_tup, it_lst, it_str, intOf_int, zip_tup, zip_lst, rng1_int, rng2_int, cut_tup, cut_lst, set0, setS, bindT1, bindT2, bindP2, ok_pr, sq_lst, sq_own, sq_tup, idx_t, idx_l, idx_o, lam_pur, lam_err, try_pur, try_err, hdR_cons, raise_bnd, enu_tup, sets2, wipe1, wipe2, app_own, frz_own, lstK_lst, isStr_str, enu_lst, map_s, map_n, ofO_n]
        refine comp_map_k fs (fun x => x) (fun x => .bl (isField x)) ?_ ?_ ?_
        · simp only [ev_var, ev_lit, ev_con, ev_tup, ev_lst, ev_un, ev_bi, ev_ch, ev_not, ev_and, ev_or, ev_ite, ev_cut, ev_call, ev_cel, ev_at0, ev_meth, ev_dct, ev_get2, ev_idx, ev_lam, evL_nil, evL_cons, evO_nil, evO_val, evC_nil, evC_val, itr_val, itr_rng1, itr_rng2, itr_zip, ex_nil, ex_cons, ex_skip, ex_set, ex_own, ex_frz, ex_unp, ex_par, ex_app, ex_put, ex_bad, ex_rse, ex_rsf, ex_try, itr_enu, ex_ret, ex_drop, ex_ite, bnd_assoc, fit_non, fit_bl, fit_int, fit_str, fitL_nil, fitL_cons, eq_ii, eq_ss, eq_bb, List.any_cons, List.any_nil, Bool.or_false, Bool.and_self, Bool.and_true, Bool.true_and, slot0, slotS, ofO_some, some_bnd, pur_bnd, non_bnd, noE_pur, asBl_bl, bnd_ite, if_bl, if_true, if_false, Bool.false_eq_true, Bool.not_true, Bool.not_false, reduceIte, pyAt0, pyAt1, pyAt2, pyAt3, List.getElem?_cons_zero, List.getElem?_cons_succ, u_isStr_non, u_isStr_bl, u_isStr_int, u_isStr_str, u_isStr_tup, u_isStr_lst, u_isStr_own, u_isTup_non, u_isTup_bl, u_isTup_int, u_isTup_str, u_isTup_tup, u_isTup_lst, u_isTup_own, u_isInt_non, u_isInt_bl, u_isInt_int, u_isInt_str, u_isInt_tup, u_isInt_lst, u_isInt_own, u_isBl_non, u_isBl_bl, u_isBl_int, u_isBl_str, u_isBl_tup, u_isBl_lst, u_isBl_own, u_isLst_non, u_isLst_bl, u_isLst_int, u_isLst_str, u_isLst_tup, u_isLst_lst, u_isLst_own, ok_non, ok_bl, ok_int, ok_str, ok_tup, ok_lst, ok_own, ok_ref, u_len_str, u_len_tup, u_len_lst, u_len_own, u_int_int, u_neg_int, u_tuple_tup, u_list_tup, u_tuple_lst, u_list_lst, u_tuple_own, u_list_own, u_rev_tup, u_rev_lst, b_add_int, b_sub_int, b_add_tup, b_add_str, b_add_lst, b_mul_int, b_mod_int, b_fdiv_int, b_eq, b_ne, b_lt_int, b_lt_str, b_le_int, b_le_str, b_gt_int, b_gt_str, b_ge_int, b_ge_str, b_in_tup, b_in_lst, b_nin_tup, b_in_str, b_nin_str, b_is_bl, b_isn_bl, b_ix_tup, b_ix_lst, b_ix_str, eqO_int, eqO_str, eqO_bl, it_tup, it_lst, it_str, intOf_int, zip_tup, zip_lst, rng1_int, rng2_int, cut_tup, cut_lst, set0, setS, bindT1, bindT2, bindP2, ok_pr, sq_lst, sq_own, sq_tup, idx_t, idx_l, idx_o, lam_pur, lam_err, try_pur, try_err, hdR_cons, raise_bnd, enu_tup, sets2, wipe1, wipe2, app_own, frz_own, lstK_lst, isStr_str, enu_lst, map_s, map_n, ofO_n, map_self]
        · intro x hx
          have := r2 k x (hfs x hx)
          simp only [ev_var, ev_lit, ev_con, ev_tup, ev_lst, ev_un, ev_bi, ev_ch, ev_not, ev_and, ev_or, ev_ite, ev_cut, ev_call, ev_cel, ev_at0, ev_meth, ev_dct, ev_get2, ev_idx, ev_lam, evL_nil, evL_cons, evO_nil, evO_val, evC_nil, evC_val, itr_val, itr_rng1, itr_rng2, itr_zip, ex_nil, ex_cons, ex_skip, ex_set, ex_own, ex_frz, ex_unp, ex_par, ex_app, ex_put, ex_bad, ex_rse, ex_rsf, ex_try, itr_enu, ex_ret, ex_drop, ex_ite, bnd_assoc, fit_non, fit_bl, fit_int, fit_str, fitL_nil, fitL_cons, eq_ii, eq_ss, eq_bb, List.any_cons, List.any_nil, Bool.or_false, Bool.and_self, Bool.and_true, Bool.true_and, slot0, slotS, ofO_some, some_bnd, pur_bnd, non_bnd, noE_pur, asBl_bl, bnd_ite, if_bl, if_true, if_false, Bool.false_eq_true, Bool.not_true, Bool.not_false, reduceIte, pyAt0, pyAt1, pyAt2, pyAt3, List.getElem?_cons_zero, List.getElem?_cons_succ, u_isStr_non, u_isStr_bl, u_isStr_int, u_isStr_str, u_isStr_tup, u_isStr_lst, u_isStr_own, u_isTup_non, u_isTup_bl, u_isTup_int, u_isTup_str, u_isTup_tup, u_isTup_lst, u_isTup_own, u_isInt_non, u_isInt_bl, u_isInt_int, u_isInt_str, u_isInt_tup, u_isInt_lst, u_isInt_own, u_isBl_non, u_isBl_bl, u_isBl_int, u_isBl_str, u_isBl_tup, u_isBl_lst, u_isBl_own, u_isLst_non, u_isLst_bl, u_isLst_int, u_isLst_str, u_isLst_tup, u_isLst_lst, u_isLst_own, ok_non, ok_bl, ok_int, ok_str, ok_tup, ok_lst, ok_own, ok_ref, u_len_str, u_len_tup, u_len_lst, u_len_own, u_int_int, u_neg_int, u_tuple_tup, u_list_tup, u_tuple_lst, u_list_lst, u_tuple_own, u_list_own, u_rev_tup, u_rev_lst, b_add_int, b_sub_int, b_add_tup, b_add_str, b_add_lst, b_mul_int, b_mod_int, b_fdiv_int, b_eq, b_ne, b_lt_int, b_lt_str, b_le_int, b_le_str, b_gt_int, b_gt_str, b_ge_int, b_ge_str, b_in_tup, b_in_lst, b_nin_tup, b_in_str, b_nin_str, b_is_bl, b_isn_bl, b_ix_tup, b_ix_lst, b_ix_str, eqO_int, eqO_str, eqO_bl, it_tup, it_lst, it_str, intOf_int, zip_tup, zip_lst, rng1_int, rng2_int, cut_tup, cut_lst, set0, setS, bindT1, bindT2, bindP2, ok_pr, sq_lst, sq_own, sq_tup, idx_t, idx_l, idx_o, lam_pur, lam_err, try_pur, try_err, hdR_cons, raise_bnd, enu_tup, sets2, wipe1, wipe2, app_own, frz_own, lstK_lst, isStr_str, enu_lst, map_s, map_n, ofO_n, sm_ok (hfs x hx), this]
        · simp only [ev_var, ev_lit, ev_con, ev_tup, ev_lst, ev_un, ev_bi, ev_ch, ev_not, ev_and, ev_or, ev_ite, ev_cut, ev_call, ev_cel, ev_at0, ev_meth, ev_dct, ev_get2, ev_idx, ev_lam, evL_nil, evL_cons, evO_nil, evO_val, evC_nil, evC_val, itr_val, itr_rng1, itr_rng2, itr_zip, ex_nil, ex_cons, ex_skip, ex_set, ex_own, ex_frz, ex_unp, ex_par, ex_app, ex_put, ex_bad, ex_rse, ex_rsf, ex_try, itr_enu, ex_ret, ex_drop, ex_ite, bnd_assoc, fit_non, fit_bl, fit_int, fit_str, fitL_nil, fitL_cons, eq_ii, eq_ss, eq_bb, List.any_cons, List.any_nil, Bool.or_false, Bool.and_self, Bool.and_true, Bool.true_and, slot0, slotS, ofO_some, some_bnd, pur_bnd, non_bnd, noE_pur, asBl_bl, bnd_ite, if_bl, if_true, if_false, Bool.false_eq_true, Bool.not_true, Bool.not_false, reduceIte, pyAt0, pyAt1, pyAt2, pyAt3, List.getElem?_cons_zero, List.getElem?_cons_succ, u_isStr_non, u_isStr_bl, u_isStr_int, u_isStr_str, u_isStr_tup, u_isStr_lst, u_isStr_own, u_isTup_non, u_isTup_bl, u_isTup_int, u_isTup_str, u_isTup_tup, u_isTup_lst, u_isTup_own, u_isInt_non, u_isInt_bl, u_isInt_int, u_isInt_str, u_isInt_tup, u_isInt_lst, u_isInt_own, u_isBl_non, u_isBl_bl, u_isBl_int, u_isBl_str, u_isBl_tup, u_isBl_lst, u_isBl_own, u_isLst_non, u_isLst_bl, u_isLst_int, u_isLst_str, u_isLst_tup, u_isLst_lst, u_isLst_own, ok_non, ok_bl, ok_int, ok_str, ok_tup, ok_lst, ok_own, ok_ref, u_len_str, u_len_tup, u_len_lst, u_len_own, u_int_int, u_neg_int, u_tuple_tup, u_list_tup, u_tuple_lst, u_list_lst, u_tuple_own, u_list_own, u_rev_tup, u_rev_lst, b_add_int, b_sub_int, b_add_tup, b_add_str, b_add_lst, b_mul_int, b_mod_int, b_fdiv_int, b_eq, b_ne, b_lt_int, b_lt_str, b_le_int, b_le_str, b_gt_int, b_gt_str, b_ge_int, b_ge_str, b_in_tup, b_in_lst, b_nin_tup, b_in_str, b_nin_str, b_is_bl, b_isn_bl, b_ix_tup, b_ix_lst, b_ix_str, eqO_int, eqO_str, eqO_bl, it_tup, it_lst, it_str, intOf_int, zip_tup, zip_lst, rng1_int, rng2_int, cut_tup, cut_lst, set0, setS, bindT1, bindT2, bindP2, ok_pr, sq_lst, sq_own, sq_tup, idx_t, idx_l, idx_o, lam_pur, lam_err, try_pur, try_err, hdR_cons, raise_bnd, enu_tup, sets2, wipe1, wipe2, app_own, frz_own, lstK_lst, isStr_str, enu_lst, map_s, map_n, ofO_n, u_all_map]
          cases hal : fs.all isField with
          | false => simp only [ev_var, ev_lit, ev_con, ev_tup, ev_lst, ev_un, ev_bi, ev_ch, ev_not, ev_and, ev_or, ev_ite, ev_cut, ev_call, ev_cel, ev_at0, ev_meth, ev_dct, ev_get2, ev_idx, ev_lam, evL_nil, evL_cons, evO_nil, evO_val, evC_nil, evC_val, itr_val, itr_rng1, itr_rng2, itr_zip, ex_nil, ex_cons, ex_skip, ex_set, ex_own, ex_frz, ex_unp, ex_par, ex_app, ex_put, ex_bad, ex_rse, ex_rsf, ex_try, itr_enu, ex_ret, ex_drop, ex_ite, bnd_assoc, fit_non, fit_bl, fit_int, fit_str, fitL_nil, fitL_cons, eq_ii, eq_ss, eq_bb, List.any_cons, List.any_nil, Bool.or_false, Bool.and_self, Bool.and_true, Bool.true_and, slot0, slotS, ofO_some, some_bnd, pur_bnd, non_bnd, noE_pur, asBl_bl, bnd_ite, if_bl, if_true, if_false, Bool.false_eq_true, Bool.not_true, Bool.not_false, reduceIte, pyAt0, pyAt1, pyAt2, pyAt3, List.getElem?_cons_zero, List.getElem?_cons_succ, u_isStr_non, u_isStr_bl, u_isStr_int, u_isStr_str, u_isStr_tup, u_isStr_lst, u_isStr_own, u_isTup_non, u_isTup_bl, u_isTup_int, u_isTup_str, u_isTup_tup, u_isTup_lst, u_isTup_own, u_isInt_non, u_isInt_bl, u_isInt_int, u_isInt_str, u_isInt_tup, u_isInt_lst, u_isInt_own, u_isBl_non, u_isBl_bl, u_isBl_int, u_isBl_str, u_isBl_tup, u_isBl_lst, u_isBl_own, u_isLst_non, u_isLst_bl, u_isLst_int, u_isLst_str, u_isLst_tup, u_isLst_lst, u_isLst_own, ok_non, ok_bl, ok_int, ok_str, ok_tup, ok_lst, ok_own, ok_ref, u_len_str, u_len_tup, u_len_lst, u_len_own, u_int_int, u_neg_int, u_tuple_tup, u_list_tup, u_tuple_lst, u_list_lst, u_tuple_own, u_list_own, u_rev_tup, u_rev_lst, b_add_int, b_sub_int, b_add_tup, b_add_str, b_add_lst, b_mul_int, b_mod_int, b_fdiv_int, b_eq, b_ne, b_lt_int, b_lt_str, b_le_int, b_le_str, b_gt_int, b_gt_str, b_ge_int, b_ge_str, b_in_tup, b_in_lst, b_nin_tup, b_in_str, b_nin_str, b_is_bl, b_isn_bl, b_ix_tup, b_ix_lst, b_ix_str, eqO_int, eqO_str, eqO_bl, it_tup, it_lst, it_str, intOf_int, zip_tup, zip_lst, rng1_int, rng2_int, cut_tup, cut_lst, set0, setS, bindT1, bindT2, bindP2, ok_pr, sq_lst, sq_own, sq_tup, idx_t, idx_l, idx_o, lam_pur, lam_err, try_pur, try_err, hdR_cons, raise_bnd, enu_tup, sets2, wipe1, wipe2, app_own, frz_own, lstK_lst, isStr_str, enu_lst, map_s, map_n, ofO_n, Bool.false_and]
          | true =>
            simp only [ev_var, ev_lit, ev_con, ev_tup, ev_lst, ev_un, ev_bi, ev_ch, ev_not, ev_and, ev_or, ev_ite, ev_cut, ev_call, ev_cel, ev_at0, ev_meth, ev_dct, ev_get2, ev_idx, ev_lam, evL_nil, evL_cons, evO_nil, evO_val, evC_nil, evC_val, itr_val, itr_rng1, itr_rng2, itr_zip, ex_nil, ex_cons, ex_skip, ex_set, ex_own, ex_frz, ex_unp, ex_par, ex_app, ex_put, ex_bad, ex_rse, ex_rsf, ex_try, itr_enu, ex_ret, ex_drop, ex_ite, bnd_assoc, fit_non, fit_bl, fit_int, fit_str, fitL_nil, fitL_cons, eq_ii, eq_ss, eq_bb, List.any_cons, List.any_nil, Bool.or_false, Bool.and_self, Bool.and_true, Bool.true_and, slot0, slotS, ofO_some, some_bnd, pur_bnd, non_bnd, noE_pur, asBl_bl, bnd_ite, if_bl, if_true, if_false, Bool.false_eq_true, Bool.not_true, Bool.not_false, reduceIte, pyAt0, pyAt1, pyAt2, pyAt3, List.getElem?_cons_zero, List.getElem?_cons_succ, u_isStr_non, u_isStr_bl, u_isStr_int, u_isStr_str, u_isStr_tup, u_isStr_lst, u_isStr_own, u_isTup_non, u_isTup_bl, u_isTup_int, u_isTup_str, u_isTup_tup, u_isTup_lst, u_isTup_own, u_isInt_non, u_isInt_bl, u_isInt_int, u_isInt_str, u_isInt_tup, u_isInt_lst, u_isInt_own, u_isBl_non, u_isBl_bl, u_isBl_int, u_isBl_str, u_isBl_tup, u_isBl_lst, u_isBl_own, u_isLst_non, u_isLst_bl, u_isLst_int, u_isLst_str, u_isLst_tup, u_isLst_lst, u_isLst_own, ok_non, ok_bl, ok_int, ok_str, ok_tup, ok_lst, ok_own, ok_ref, u_len_str, u_len_tup, u_len_lst, u_len_own, u_int_int, u_neg_int, u_tuple_tup, u_list_tup, u_tuple_lst, u_list_lst, u_tuple_own, u_list_own, u_rev_tup, u_rev_lst, b_add_int, b_sub_int, b_add_tup, b_add_str, b_add_lst, b_mul_int, b_mod_int, b_fdiv_int, b_eq, b_ne, b_lt_int, b_lt_str, b_le_int, b_le_str, b_gt_int, b_gt_str, b_ge_int, b_ge_str, b_in_tup, b_in_lst, b_nin_tup, b_in_str, b_nin_str, b_is_bl, b_isn_bl, b_ix_tup, b_ix_lst, b_ix_str, eqO_int, eqO_str, eqO_bl, it_tup, it_lst, it_str, intOf_int, zip_tup, zip_lst, rng1_int, rng2_int, cut_tup, cut_lst, set0, setS, bindT1, bindT2, bindP2, ok_pr, sq_lst, sq_own, sq_tup, idx_t, idx_l, idx_o, lam_pur, lam_err, try_pur, try_err, hdR_cons, raise_bnd, enu_tup, sets2, wipe1, wipe2, app_own, frz_own, lstK_lst, isStr_str, enu_lst, map_s, map_n, ofO_n]
            refine for_fold_k fs (fun (x : Int) ρ => ∃ f o, ρ = [some (.tup fs), some (.int x), f, o]) (fun r f => r * ((valsOf f).length : Int)) 1 (by simp only [ev_var, ev_lit, ev_con, ev_tup, ev_lst, ev_un, ev_bi, ev_ch, ev_not, ev_and, ev_or, ev_ite, ev_cut, ev_call, ev_cel, ev_at0, ev_meth, ev_dct, ev_get2, ev_idx, ev_lam, evL_nil, evL_cons, evO_nil, evO_val, evC_nil, evC_val, itr_val, itr_rng1, itr_rng2, itr_zip, ex_nil, ex_cons, ex_skip, ex_set, ex_own, ex_frz, ex_unp, ex_par, ex_app, ex_put, ex_bad, ex_rse, ex_rsf, ex_try, itr_enu, ex_ret, ex_drop, ex_ite, bnd_assoc, fit_non, fit_bl, fit_int, fit_str, fitL_nil, fitL_cons, eq_ii, eq_ss, eq_bb, List.any_cons, List.any_nil, Bool.or_false, Bool.and_self, Bool.and_true, Bool.true_and, slot0, slotS, ofO_some, some_bnd, pur_bnd, non_bnd, noE_pur, asBl_bl, bnd_ite, if_bl, if_true, if_false, Bool.false_eq_true, Bool.not_true, Bool.not_false, reduceIte, pyAt0, pyAt1, pyAt2, pyAt3, List.getElem?_cons_zero, List.getElem?_cons_succ, u_isStr_non, u_isStr_bl, u_isStr_int, u_isStr_str, u_isStr_tup, u_isStr_lst, u_isStr_own, u_isTup_non, u_isTup_bl, u_isTup_int, u_isTup_str, u_isTup_tup, u_isTup_lst, u_isTup_own, u_isInt_non, u_isInt_bl, u_isInt_int, u_isInt_str, u_isInt_tup, u_isInt_lst, u_isInt_own, u_isBl_non, u_isBl_bl, u_isBl_int, u_isBl_str, u_isBl_tup, u_isBl_lst, u_isBl_own, u_isLst_non, u_isLst_bl, u_isLst_int, u_isLst_str, u_isLst_tup, u_isLst_lst, u_isLst_own, ok_non, ok_bl, ok_int, ok_str, ok_tup, ok_lst, ok_own, ok_ref, u_len_str, u_len_tup, u_len_lst, u_len_own, u_int_int, u_neg_int, u_tuple_tup, u_list_tup, u_tuple_lst, u_list_lst, u_tuple_own, u_list_own, u_rev_tup, u_rev_lst, b_add_int, b_sub_int, b_add_tup, b_add_str, b_add_lst, b_mul_int, b_mod_int, b_fdiv_int, b_eq, b_ne, b_lt_int, b_lt_str, b_le_int, b_le_str, b_gt_int, b_gt_str, b_ge_int, b_ge_str, b_in_tup, b_in_lst, b_nin_tup, b_in_str, b_nin_str, b_is_bl, b_isn_bl, b_ix_tup, b_ix_lst, b_ix_str, eqO_int, eqO_str, eqO_bl, it_tup, it_lst, it_str, intOf_int, zip_tup, zip_lst, rng1_int, rng2_int, cut_tup, cut_lst, set0, setS, bindT1, bindT2, bindP2, ok_pr, sq_lst, sq_own, sq_tup, idx_t, idx_l, idx_o, lam_pur, lam_err, try_pur, try_err, hdR_cons, raise_bnd, enu_tup, sets2, wipe1, wipe2, app_own, frz_own, lstK_lst, isStr_str, enu_lst, map_s, map_n, ofO_n]) ⟨_, _, rfl⟩ ?_ ?_
            · rintro d hd x _ ⟨f, o, rfl⟩
              obtain ⟨s, vs, rfl, h5, h6, _⟩ := field_of (List.all_eq_true.mp hal d hd)
              refine ⟨_, ?_, some (.tup [.str s, .tup vs]), o, rfl⟩
              simp only [ev_var, ev_lit, ev_con, ev_tup, ev_lst, ev_un, ev_bi, ev_ch, ev_not, ev_and, ev_or, ev_ite, ev_cut, ev_call, ev_cel, ev_at0, ev_meth, ev_dct, ev_get2, ev_idx, ev_lam, evL_nil, evL_cons, evO_nil, evO_val, evC_nil, evC_val, itr_val, itr_rng1, itr_rng2, itr_zip, ex_nil, ex_cons, ex_skip, ex_set, ex_own, ex_frz, ex_unp, ex_par, ex_app, ex_put, ex_bad, ex_rse, ex_rsf, ex_try, itr_enu, ex_ret, ex_drop, ex_ite, bnd_assoc, fit_non, fit_bl, fit_int, fit_str, fitL_nil, fitL_cons, eq_ii, eq_ss, eq_bb, List.any_cons, List.any_nil, Bool.or_false, Bool.and_self, Bool.and_true, Bool.true_and, slot0, slotS, ofO_some, some_bnd, pur_bnd, non_bnd, noE_pur, asBl_bl, bnd_ite, if_bl, if_true, if_false, Bool.false_eq_true, Bool.not_true, Bool.not_false, reduceIte, pyAt0, pyAt1, pyAt2, pyAt3, List.getElem?_cons_zero, List.getElem?_cons_succ, u_isStr_non, u_isStr_bl, u_isStr_int, u_isStr_str, u_isStr_tup, u_isStr_lst, u_isStr_own, u_isTup_non, u_isTup_bl, u_isTup_int, u_isTup_str, u_isTup_tup, u_isTup_lst, u_isTup_own, u_isInt_non, u_isInt_bl, u_isInt_int, u_isInt_str, u_isInt_tup, u_isInt_lst, u_isInt_own, u_isBl_non, u_isBl_bl, u_isBl_int, u_isBl_str, u_isBl_tup, u_isBl_lst, u_isBl_own, u_isLst_non, u_isLst_bl, u_isLst_int, u_isLst_str, u_isLst_tup, u_isLst_lst, u_isLst_own, ok_non, ok_bl, ok_int, ok_str, ok_tup, ok_lst, ok_own, ok_ref, u_len_str, u_len_tup, u_len_lst, u_len_own, u_int_int, u_neg_int, u_tuple_tup, u_list_tup, u_tuple_lst, u_list_lst, u_tuple_own, u_list_own, u_rev_tup, u_rev_lst, b_add_int, b_sub_int, b_add_tup, b_add_str, b_add_lst, b_mul_int, b_mod_int, b_fdiv_int, b_eq, b_ne, b_lt_int, b_lt_str, b_le_int, b_le_str, b_gt_int, b_gt_str, b_ge_int, b_ge_str, b_in_tup, b_in_lst, b_nin_tup, b_in_str, b_nin_str, b_is_bl, b_isn_bl, b_ix_tup, b_ix_lst, b_ix_str, eqO_int, eqO_str, eqO_bl, it_tup, it_lst, it_str, intOf_int, zip_tup, zip_lst, rng1_int, rng2_int, cut_tup, cut_lst, set0, setS, bindT1, bindT2, bindP2, ok_pr, sq_lst, sq_own, sq_tup, idx_t, idx_l, idx_o, lam_pur, lam_err, try_pur, try_err, hdR_cons, raise_bnd, enu_tup, sets2, wipe1, wipe2, app_own, frz_own, lstK_lst, isStr_str, enu_lst, map_s, map_n, ofO_n, mulOk h6, valsOf]
            · rintro _ ⟨f, o, rfl⟩
              show bnd _ _ = _
              simp only [ev_var, ev_lit, ev_con, ev_tup, ev_lst, ev_un, ev_bi, ev_ch, ev_not, ev_and, ev_or, ev_ite, ev_cut, ev_call, ev_cel, ev_at0, ev_meth, ev_dct, ev_get2, ev_idx, ev_lam, evL_nil, evL_cons, evO_nil, evO_val, evC_nil, evC_val, itr_val, itr_rng1, itr_rng2, itr_zip, ex_nil, ex_cons, ex_skip, ex_set, ex_own, ex_frz, ex_unp, ex_par, ex_app, ex_put, ex_bad, ex_rse, ex_rsf, ex_try, itr_enu, ex_ret, ex_drop, ex_ite, bnd_assoc, fit_non, fit_bl, fit_int, fit_str, fitL_nil, fitL_cons, eq_ii, eq_ss, eq_bb, List.any_cons, List.any_nil, Bool.or_false, Bool.and_self, Bool.and_true, Bool.true_and, slot0, slotS, ofO_some, some_bnd, pur_bnd, non_bnd, noE_pur, asBl_bl, bnd_ite, if_bl, if_true, if_false, Bool.false_eq_true, Bool.not_true, Bool.not_false, reduceIte, pyAt0, pyAt1, pyAt2, pyAt3, List.getElem?_cons_zero, List.getElem?_cons_succ, u_isStr_non, u_isStr_bl, u_isStr_int, u_isStr_str, u_isStr_tup, u_isStr_lst, u_isStr_own, u_isTup_non, u_isTup_bl, u_isTup_int, u_isTup_str, u_isTup_tup, u_isTup_lst, u_isTup_own, u_isInt_non, u_isInt_bl, u_isInt_int, u_isInt_str, u_isInt_tup, u_isInt_lst, u_isInt_own, u_isBl_non, u_isBl_bl, u_isBl_int, u_isBl_str, u_isBl_tup, u_isBl_lst, u_isBl_own, u_isLst_non, u_isLst_bl, u_isLst_int, u_isLst_str, u_isLst_tup, u_isLst_lst, u_isLst_own, ok_non, ok_bl, ok_int, ok_str, ok_tup, ok_lst, ok_own, ok_ref, u_len_str, u_len_tup, u_len_lst, u_len_own, u_int_int, u_neg_int, u_tuple_tup, u_list_tup, u_tuple_lst, u_list_lst, u_tuple_own, u_list_own, u_rev_tup, u_rev_lst, b_add_int, b_sub_int, b_add_tup, b_add_str, b_add_lst, b_mul_int, b_mod_int, b_fdiv_int, b_eq, b_ne, b_lt_int, b_lt_str, b_le_int, b_le_str, b_gt_int, b_gt_str, b_ge_int, b_ge_str, b_in_tup, b_in_lst, b_nin_tup, b_in_str, b_nin_str, b_is_bl, b_isn_bl, b_ix_tup, b_ix_lst, b_ix_str, eqO_int, eqO_str, eqO_bl, it_tup, it_lst, it_str, intOf_int, zip_tup, zip_lst, rng1_int, rng2_int, cut_tup, cut_lst, set0, setS, bindT1, bindT2, bindP2, ok_pr, sq_lst, sq_own, sq_tup, idx_t, idx_l, idx_o, lam_pur, lam_err, try_pur, try_err, hdR_cons, raise_bnd, enu_tup, sets2, wipe1, wipe2, app_own, frz_own, lstK_lst, isStr_str, enu_lst, map_s, map_n, ofO_n, con4]
              rw [show List.foldl (fun r f => r * ((valsOf f).length : Int)) 1 fs = many fs from rfl]
              cases hm : decide (many fs ≤ 6) with
              | false => simp only [ev_var, ev_lit, ev_con, ev_tup, ev_lst, ev_un, ev_bi, ev_ch, ev_not, ev_and, ev_or, ev_ite, ev_cut, ev_call, ev_cel, ev_at0, ev_meth, ev_dct, ev_get2, ev_idx, ev_lam, evL_nil, evL_cons, evO_nil, evO_val, evC_nil, evC_val, itr_val, itr_rng1, itr_rng2, itr_zip, ex_nil, ex_cons, ex_skip, ex_set, ex_own, ex_frz, ex_unp, ex_par, ex_app, ex_put, ex_bad, ex_rse, ex_rsf, ex_try, itr_enu, ex_ret, ex_drop, ex_ite, bnd_assoc, fit_non, fit_bl, fit_int, fit_str, fitL_nil, fitL_cons, eq_ii, eq_ss, eq_bb, List.any_cons, List.any_nil, Bool.or_false, Bool.and_self, Bool.and_true, Bool.true_and, slot0, slotS, ofO_some, some_bnd, pur_bnd, non_bnd, noE_pur, asBl_bl, bnd_ite, if_bl, if_true, if_false, Bool.false_eq_true, Bool.not_true, Bool.not_false, reduceIte, pyAt0, pyAt1, pyAt2, pyAt3, List.getElem?_cons_zero, List.getElem?_cons_succ, u_isStr_non, u_isStr_bl, u_isStr_int, u_isStr_str, u_isStr_tup, u_isStr_lst, u_isStr_own, u_isTup_non, u_isTup_bl, u_isTup_int, u_isTup_str, u_isTup_tup, u_isTup_lst, u_isTup_own, u_isInt_non, u_isInt_bl, u_isInt_int, u_isInt_str, u_isInt_tup, u_isInt_lst, u_isInt_own, u_isBl_non, u_isBl_bl, u_isBl_int, u_isBl_str, u_isBl_tup, u_isBl_lst, u_isBl_own, u_isLst_non, u_isLst_bl, u_isLst_int, u_isLst_str, u_isLst_tup, u_isLst_lst, u_isLst_own, ok_non, ok_bl, ok_int, ok_str, ok_tup, ok_lst, ok_own, ok_ref, u_len_str, u_len_tup, u_len_lst, u_len_own, u_int_int, u_neg_int, u_tuple_tup, u_list_tup, u_tuple_lst, u_list_lst, u_tuple_own, u_list_own, u_rev_tup, u_rev_lst, b_add_int, b_sub_int, b_add_tup, b_add_str, b_add_lst, b_mul_int, b_mod_int, b_fdiv_int, b_eq, b_ne, b_lt_int, b_lt_str, b_le_int, b_le_str, b_gt_int, b_gt_str, b_ge_int, b_ge_str, b_in_tup, b_in_lst, b_nin_tup, b_in_str, b_nin_str, b_is_bl, b_isn_bl, b_ix_tup, b_ix_lst, b_ix_str, eqO_int, eqO_str, eqO_bl, it_tup, it_lst, it_str, intOf_int, zip_tup, zip_lst, rng1_int, rng2_int, cut_tup, cut_lst, set0, setS, bindT1, bindT2, bindP2, ok_pr, sq_lst, sq_own, sq_tup, idx_t, idx_l, idx_o, lam_pur, lam_err, try_pur, try_err, hdR_cons, raise_bnd, enu_tup, sets2, wipe1, wipe2, app_own, frz_own, lstK_lst, isStr_str, enu_lst, map_s, map_n, ofO_n, Bool.false_and]
              | true =>
                simp only [ev_var, ev_lit, ev_con, ev_tup, ev_lst, ev_un, ev_bi, ev_ch, ev_not, ev_and, ev_or, ev_ite, ev_cut, ev_call, ev_cel, ev_at0, ev_meth, ev_dct, ev_get2, ev_idx, ev_lam, evL_nil, evL_cons, evO_nil, evO_val, evC_nil, evC_val, itr_val, itr_rng1, itr_rng2, itr_zip, ex_nil, ex_cons, ex_skip, ex_set, ex_own, ex_frz, ex_unp, ex_par, ex_app, ex_put, ex_bad, ex_rse, ex_rsf, ex_try, itr_enu, ex_ret, ex_drop, ex_ite, bnd_assoc, fit_non, fit_bl, fit_int, fit_str, fitL_nil, fitL_cons, eq_ii, eq_ss, eq_bb, List.any_cons, List.any_nil, Bool.or_false, Bool.and_self, Bool.and_true, Bool.true_and, slot0, slotS, ofO_some, some_bnd, pur_bnd, non_bnd, noE_pur, asBl_bl, bnd_ite, if_bl, if_true, if_false, Bool.false_eq_true, Bool.not_true, Bool.not_false, reduceIte, pyAt0, pyAt1, pyAt2, pyAt3, List.getElem?_cons_zero, List.getElem?_cons_succ, u_isStr_non, u_isStr_bl, u_isStr_int, u_isStr_str, u_isStr_tup, u_isStr_lst, u_isStr_own, u_isTup_non, u_isTup_bl, u_isTup_int, u_isTup_str, u_isTup_tup, u_isTup_lst, u_isTup_own, u_isInt_non, u_isInt_bl, u_isInt_int, u_isInt_str, u_isInt_tup, u_isInt_lst, u_isInt_own, u_isBl_non, u_isBl_bl, u_isBl_int, u_isBl_str, u_isBl_tup, u_isBl_lst, u_isBl_own, u_isLst_non, u_isLst_bl, u_isLst_int, u_isLst_str, u_isLst_tup, u_isLst_lst, u_isLst_own, ok_non, ok_bl, ok_int, ok_str, ok_tup, ok_lst, ok_own, ok_ref, u_len_str, u_len_tup, u_len_lst, u_len_own, u_int_int, u_neg_int, u_tuple_tup, u_list_tup, u_tuple_lst, u_list_lst, u_tuple_own, u_list_own, u_rev_tup, u_rev_lst, b_add_int, b_sub_int, b_add_tup, b_add_str, b_add_lst, b_mul_int, b_mod_int, b_fdiv_int, b_eq, b_ne, b_lt_int, b_lt_str, b_le_int, b_le_str, b_gt_int, b_gt_str, b_ge_int, b_ge_str, b_in_tup, b_in_lst, b_nin_tup, b_in_str, b_nin_str, b_is_bl, b_isn_bl, b_ix_tup, b_ix_lst, b_ix_str, eqO_int, eqO_str, eqO_bl, it_tup, it_lst, it_str, intOf_int, zip_tup, zip_lst, rng1_int, rng2_int, cut_tup, cut_lst, set0, setS, bindT1, bindT2, bindP2, ok_pr, sq_lst, sq_own, sq_tup, idx_t, idx_l, idx_o, lam_pur, lam_err, try_pur, try_err, hdR_cons, raise_bnd, enu_tup, sets2, wipe1, wipe2, app_own, frz_own, lstK_lst, isStr_str, enu_lst, map_s, map_n, ofO_n]
                refine comp_map_k fs (fun x => x) (fun x => .str (nameOf x)) ?_ ?_ ?_
                · simp only [ev_var, ev_lit, ev_con, ev_tup, ev_lst, ev_un, ev_bi, ev_ch, ev_not, ev_and, ev_or, ev_ite, ev_cut, ev_call, ev_cel, ev_at0, ev_meth, ev_dct, ev_get2, ev_idx, ev_lam, evL_nil, evL_cons, evO_nil, evO_val, evC_nil, evC_val, itr_val, itr_rng1, itr_rng2, itr_zip, ex_nil, ex_cons, ex_skip, ex_set, ex_own, ex_frz, ex_unp, ex_par, ex_app, ex_put, ex_bad, ex_rse, ex_rsf, ex_try, itr_enu, ex_ret, ex_drop, ex_ite, bnd_assoc, fit_non, fit_bl, fit_int, fit_str, fitL_nil, fitL_cons, eq_ii, eq_ss, eq_bb, List.any_cons, List.any_nil, Bool.or_false, Bool.and_self, Bool.and_true, Bool.true_and, slot0, slotS, ofO_some, some_bnd, pur_bnd, non_bnd, noE_pur, asBl_bl, bnd_ite, if_bl, if_true, if_false, Bool.false_eq_true, Bool.not_true, Bool.not_false, reduceIte, pyAt0, pyAt1, pyAt2, pyAt3, List.getElem?_cons_zero, List.getElem?_cons_succ, u_isStr_non, u_isStr_bl, u_isStr_int, u_isStr_str, u_isStr_tup, u_isStr_lst, u_isStr_own, u_isTup_non, u_isTup_bl, u_isTup_int, u_isTup_str, u_isTup_tup, u_isTup_lst, u_isTup_own, u_isInt_non, u_isInt_bl, u_isInt_int, u_isInt_str, u_isInt_tup, u_isInt_lst, u_isInt_own, u_isBl_non, u_isBl_bl, u_isBl_int, u_isBl_str, u_isBl_tup, u_isBl_lst, u_isBl_own, u_isLst_non, u_isLst_bl, u_isLst_int, u_isLst_str, u_isLst_tup, u_isLst_lst, u_isLst_own, ok_non, ok_bl, ok_int, ok_str, ok_tup, ok_lst, ok_own, ok_ref, u_len_str, u_len_tup, u_len_lst, u_len_own, u_int_int, u_neg_int, u_tuple_tup, u_list_tup, u_tuple_lst, u_list_lst, u_tuple_own, u_list_own, u_rev_tup, u_rev_lst, b_add_int, b_sub_int, b_add_tup, b_add_str, b_add_lst, b_mul_int, b_mod_int, b_fdiv_int, b_eq, b_ne, b_lt_int, b_lt_str, b_le_int, b_le_str, b_gt_int, b_gt_str, b_ge_int, b_ge_str, b_in_tup, b_in_lst, b_nin_tup, b_in_str, b_nin_str, b_is_bl, b_isn_bl, b_ix_tup, b_ix_lst, b_ix_str, eqO_int, eqO_str, eqO_bl, it_tup, it_lst, it_str, intOf_int, zip_tup, zip_lst, rng1_int, rng2_int, cut_tup, cut_lst, set0, setS, bindT1, bindT2, bindP2, ok_pr, sq_lst, sq_own, sq_tup, idx_t, idx_l, idx_o, lam_pur, lam_err, try_pur, try_err, hdR_cons, raise_bnd, enu_tup, sets2, wipe1, wipe2, app_own, frz_own, lstK_lst, isStr_str, enu_lst, map_s, map_n, ofO_n, map_self]
                · intro x hx
                  obtain ⟨s, vs, rfl, h5, h6, _⟩ := field_of (List.all_eq_true.mp hal x hx)
                  simp only [ev_var, ev_lit, ev_con, ev_tup, ev_lst, ev_un, ev_bi, ev_ch, ev_not, ev_and, ev_or, ev_ite, ev_cut, ev_call, ev_cel, ev_at0, ev_meth, ev_dct, ev_get2, ev_idx, ev_lam, evL_nil, evL_cons, evO_nil, evO_val, evC_nil, evC_val, itr_val, itr_rng1, itr_rng2, itr_zip, ex_nil, ex_cons, ex_skip, ex_set, ex_own, ex_frz, ex_unp, ex_par, ex_app, ex_put, ex_bad, ex_rse, ex_rsf, ex_try, itr_enu, ex_ret, ex_drop, ex_ite, bnd_assoc, fit_non, fit_bl, fit_int, fit_str, fitL_nil, fitL_cons, eq_ii, eq_ss, eq_bb, List.any_cons, List.any_nil, Bool.or_false, Bool.and_self, Bool.and_true, Bool.true_and, slot0, slotS, ofO_some, some_bnd, pur_bnd, non_bnd, noE_pur, asBl_bl, bnd_ite, if_bl, if_true, if_false, Bool.false_eq_true, Bool.not_true, Bool.not_false, reduceIte, pyAt0, pyAt1, pyAt2, pyAt3, List.getElem?_cons_zero, List.getElem?_cons_succ, u_isStr_non, u_isStr_bl, u_isStr_int, u_isStr_str, u_isStr_tup, u_isStr_lst, u_isStr_own, u_isTup_non, u_isTup_bl, u_isTup_int, u_isTup_str, u_isTup_tup, u_isTup_lst, u_isTup_own, u_isInt_non, u_isInt_bl, u_isInt_int, u_isInt_str, u_isInt_tup, u_isInt_lst, u_isInt_own, u_isBl_non, u_isBl_bl, u_isBl_int, u_isBl_str, u_isBl_tup, u_isBl_lst, u_isBl_own, u_isLst_non, u_isLst_bl, u_isLst_int, u_isLst_str, u_isLst_tup, u_isLst_lst, u_isLst_own, ok_non, ok_bl, ok_int, ok_str, ok_tup, ok_lst, ok_own, ok_ref, u_len_str, u_len_tup, u_len_lst, u_len_own, u_int_int, u_neg_int, u_tuple_tup, u_list_tup, u_tuple_lst, u_list_lst, u_tuple_own, u_list_own, u_rev_tup, u_rev_lst, b_add_int, b_sub_int, b_add_tup, b_add_str, b_add_lst, b_mul_int, b_mod_int, b_fdiv_int, b_eq, b_ne, b_lt_int, b_lt_str, b_le_int, b_le_str, b_gt_int, b_gt_str, b_ge_int, b_ge_str, b_in_tup, b_in_lst, b_nin_tup, b_in_str, b_nin_str, b_is_bl, b_isn_bl, b_ix_tup, b_ix_lst, b_ix_str, eqO_int, eqO_str, eqO_bl, it_tup, it_lst, it_str, intOf_int, zip_tup, zip_lst, rng1_int, rng2_int, cut_tup, cut_lst, set0, setS, bindT1, bindT2, bindP2, ok_pr, sq_lst, sq_own, sq_tup, idx_t, idx_l, idx_o, lam_pur, lam_err, try_pur, try_err, hdR_cons, raise_bnd, enu_tup, sets2, wipe1, wipe2, app_own, frz_own, lstK_lst, isStr_str, enu_lst, map_s, map_n, ofO_n, nameOf, strOf]
                · have h1 := r1 (k + 1) (fs.map nameOf) (.lst (fs.map fun x => .str (nameOf x))) (.inr (by rw [List.map_map]; rfl)) (by rw [List.length_map]; omega)
                  simp only [ev_var, ev_lit, ev_con, ev_tup, ev_lst, ev_un, ev_bi, ev_ch, ev_not, ev_and, ev_or, ev_ite, ev_cut, ev_call, ev_cel, ev_at0, ev_meth, ev_dct, ev_get2, ev_idx, ev_lam, evL_nil, evL_cons, evO_nil, evO_val, evC_nil, evC_val, itr_val, itr_rng1, itr_rng2, itr_zip, ex_nil, ex_cons, ex_skip, ex_set, ex_own, ex_frz, ex_unp, ex_par, ex_app, ex_put, ex_bad, ex_rse, ex_rsf, ex_try, itr_enu, ex_ret, ex_drop, ex_ite, bnd_assoc, fit_non, fit_bl, fit_int, fit_str, fitL_nil, fitL_cons, eq_ii, eq_ss, eq_bb, List.any_cons, List.any_nil, Bool.or_false, Bool.and_self, Bool.and_true, Bool.true_and, slot0, slotS, ofO_some, some_bnd, pur_bnd, non_bnd, noE_pur, asBl_bl, bnd_ite, if_bl, if_true, if_false, Bool.false_eq_true, Bool.not_true, Bool.not_false, reduceIte, pyAt0, pyAt1, pyAt2, pyAt3, List.getElem?_cons_zero, List.getElem?_cons_succ, u_isStr_non, u_isStr_bl, u_isStr_int, u_isStr_str, u_isStr_tup, u_isStr_lst, u_isStr_own, u_isTup_non, u_isTup_bl, u_isTup_int, u_isTup_str, u_isTup_tup, u_isTup_lst, u_isTup_own, u_isInt_non, u_isInt_bl, u_isInt_int, u_isInt_str, u_isInt_tup, u_isInt_lst, u_isInt_own, u_isBl_non, u_isBl_bl, u_isBl_int, u_isBl_str, u_isBl_tup, u_isBl_lst, u_isBl_own, u_isLst_non, u_isLst_bl, u_isLst_int, u_isLst_str, u_isLst_tup, u_isLst_lst, u_isLst_own, ok_non, ok_bl, ok_int, ok_str, ok_tup, ok_lst, ok_own, ok_ref, u_len_str, u_len_tup, u_len_lst, u_len_own, u_int_int, u_neg_int, u_tuple_tup, u_list_tup, u_tuple_lst, u_list_lst, u_tuple_own, u_list_own, u_rev_tup, u_rev_lst, b_add_int, b_sub_int, b_add_tup, b_add_str, b_add_lst, b_mul_int, b_mod_int, b_fdiv_int, b_eq, b_ne, b_lt_int, b_lt_str, b_le_int, b_le_str, b_gt_int, b_gt_str, b_ge_int, b_ge_str, b_in_tup, b_in_lst, b_nin_tup, b_in_str, b_nin_str, b_is_bl, b_isn_bl, b_ix_tup, b_ix_lst, b_ix_str, eqO_int, eqO_str, eqO_bl, it_tup, it_lst, it_str, intOf_int, zip_tup, zip_lst, rng1_int, rng2_int, cut_tup, cut_lst, set0, setS, bindT1, bindT2, bindP2, ok_pr, sq_lst, sq_own, sq_tup, idx_t, idx_l, idx_o, lam_pur, lam_err, try_pur, try_err, hdR_cons, raise_bnd, enu_tup, sets2, wipe1, wipe2, app_own, frz_own, lstK_lst, isStr_str, enu_lst, map_s, map_n, ofO_n, h1]
      · simp only [h2, h4, and_false, decide_true, decide_false, ev_var, ev_lit, ev_con, ev_tup, ev_lst, ev_un, ev_bi, ev_ch, ev_not, ev_and, ev_or, ev_ite, ev_cut, ev_call, ev_cel, ev_at0, ev_meth, ev_dct, ev_get2, ev_idx, ev_lam, evL_nil, evL_cons, evO_nil, evO_val, evC_nil, evC_val, itr_val, itr_rng1, itr_rng2, itr_zip, ex_nil, ex_cons, ex_skip, ex_set, ex_own, ex_frz, ex_unp, ex_par, ex_app, ex_put, ex_bad, ex_rse, ex_rsf, ex_try, itr_enu, ex_ret, ex_drop, ex_ite, bnd_assoc, fit_non, fit_bl, fit_int, fit_str, fitL_nil, fitL_cons, eq_ii, eq_ss, eq_bb, List.any_cons, List.any_nil, Bool.or_false, Bool.and_self, Bool.and_true, Bool.true_and, slot0, slotS, ofO_some, some_bnd, pur_bnd, non_bnd, noE_pur, asBl_bl, bnd_ite, if_bl, if_true, if_false, Bool.false_eq_true, Bool.not_true, Bool.not_false, reduceIte, pyAt0, pyAt1, pyAt2, pyAt3, List.getElem?_cons_zero, List.getElem?_cons_succ, u_isStr_non, u_isStr_bl, u_isStr_int, u_isStr_str, u_isStr_tup, u_isStr_lst, u_isStr_own, u_isTup_non, u_isTup_bl, u_isTup_int, u_isTup_str, u_isTup_tup, u_isTup_lst, u_isTup_own, u_isInt_non, u_isInt_bl, u_isInt_int, u_isInt_str, u_isInt_tup, u_isInt_lst, u_isInt_own, u_isBl_non, u_isBl_bl, u_isBl_int, u_isBl_str, u_isBl_tup, u_isBl_lst, u_isBl_own, u_isLst_non, u_isLst_bl, u_isLst_int, u_isLst_str, u_isLst_tup, u_isLst_lst, u_isLst_own, ok_non, ok_bl, ok_int, ok_str, ok_tup, ok_lst, ok_own, ok_ref, u_len_str, u_len_tup, u_len_lst, u_len_own, u_int_int, u_neg_int, u_tuple_tup, u_list_tup, u_tuple_lst, u_list_lst, u_tuple_own, u_list_own, u_rev_tup, u_rev_lst, b_add_int, b_sub_int, b_add_tup, b_add_str, b_add_lst, b_mul_int, b_mod_int, b_fdiv_int, b_eq, b_ne, b_lt_int, b_lt_str, b_le_int, b_le_str, b_gt_int, b_gt_str, b_ge_int, b_ge_str, b_in_tup, b_in_lst, b_nin_tup, b_in_str, b_nin_str, b_is_bl, b_isn_bl, b_ix_tup, b_ix_lst, b_ix_str, eqO_int, eqO_str, eqO_bl, it_tup, it_lst, it_str, intOf_int, zip_tup, zip_lst, rng1_int, rng2_int, cut_tup, cut_lst, set0, setS, bindT1, bindT2, bindP2, ok_pr, sq_lst, sq_own, sq_tup, idx_t, idx_l, idx_o, lam_pur, lam_err, try_pur, try_err, hdR_cons, raise_bnd, enu_tup, sets2, wipe1, wipe2, app_own, frz_own, lstK_lst, isStr_str, enu_lst, map_s, map_n, ofO_n, Bool.false_and]
    · simp only [h2, false_and, decide_true, decide_false, ev_var, ev_lit, ev_con, ev_tup, ev_lst, ev_un, ev_bi, ev_ch, ev_not, ev_and, ev_or, ev_ite, ev_cut, ev_call, ev_cel, ev_at0, ev_meth, ev_dct, ev_get2, ev_idx, ev_lam, evL_nil, evL_cons, evO_nil, evO_val, evC_nil, evC_val, itr_val, itr_rng1, itr_rng2, itr_zip, ex_nil, ex_cons, ex_skip, ex_set, ex_own, ex_frz, ex_unp, ex_par, ex_app, ex_put, ex_bad, ex_rse, ex_rsf, ex_try, itr_enu, ex_ret, ex_drop, ex_ite, bnd_assoc, fit_non, fit_bl, fit_int, fit_str, fitL_nil, fitL_cons, eq_ii, eq_ss, eq_bb, List.any_cons, List.any_nil, Bool.or_false, Bool.and_self, Bool.and_true, Bool.true_and, slot0, slotS, ofO_some, some_bnd, pur_bnd, non_bnd, noE_pur, asBl_bl, bnd_ite, if_bl, if_true, if_false, Bool.false_eq_true, Bool.not_true, Bool.not_false, reduceIte, pyAt0, pyAt1, pyAt2, pyAt3, List.getElem?_cons_zero, List.getElem?_cons_succ, u_isStr_non, u_isStr_bl, u_isStr_int, u_isStr_str, u_isStr_tup, u_isStr_lst, u_isStr_own, u_isTup_non, u_isTup_bl, u_isTup_int, u_isTup_str, u_isTup_tup, u_isTup_lst, u_isTup_own, u_isInt_non, u_isInt_bl, u_isInt_int, u_isInt_str, u_isInt_tup, u_isInt_lst, u_isInt_own, u_isBl_non, u_isBl_bl, u_isBl_int, u_isBl_str, u_isBl_tup, u_isBl_lst, u_isBl_own, u_isLst_non, u_isLst_bl, u_isLst_int, u_isLst_str, u_isLst_tup, u_isLst_lst, u_isLst_own, ok_non, ok_bl, ok_int, ok_str, ok_tup, ok_lst, ok_own, ok_ref, u_len_str, u_len_tup, u_len_lst, u_len_own, u_int_int, u_neg_int, u_tuple_tup, u_list_tup, u_tuple_lst, u_list_lst, u_tuple_own, u_list_own, u_rev_tup, u_rev_lst, b_add_int, b_sub_int, b_add_tup, b_add_str, b_add_lst, b_mul_int, b_mod_int, b_fdiv_int, b_eq, b_ne, b_lt_int, b_lt_str, b_le_int, b_le_str, b_gt_int, b_gt_str, b_ge_int, b_ge_str, b_in_tup, b_in_lst, b_nin_tup, b_in_str, b_nin_str, b_is_bl, b_isn_bl, b_ix_tup, b_ix_lst, b_ix_str, eqO_int, eqO_str, eqO_bl, it_tup, it_lst, it_str, intOf_int, zip_tup, zip_lst, rng1_int, rng2_int, cut_tup, cut_lst, set0, setS, bindT1, bindT2, bindP2, ok_pr, sq_lst, sq_own, sq_tup, idx_t, idx_l, idx_o, lam_pur, lam_err, try_pur, try_err, hdR_cons, raise_bnd, enu_tup, sets2, wipe1, wipe2, app_own, frz_own, lstK_lst, isStr_str, enu_lst, map_s, map_n, ofO_n, Bool.false_and]
  | own l => cases n <;> cases hv
  | ref l => cases n <;> cases hv
  | pr a b => cases n <;> cases hv
  | _ => rfl
theorem in12 {n : Nat} : ((1 : Int) == (n : Int) || (2 : Int) == (n : Int)) = decide (1 ≤ n ∧ n ≤ 2) := by
  rw [Bool.eq_iff_iff]
  simp only [Bool.or_eq_true, beq_iff_eq, decide_eq_true_eq]
  omega
theorem eq_nil_filter {l : List D} {p : D → Bool} : D.eq (.lst (l.filter fun x => !p x)) (.lst []) = l.all p := by
  rw [eq_lst_nil]
  induction l with
  | nil => rfl
  | cons a l ih =>
    rw [List.filter_cons, List.all_cons]
    cases p a with
    | true => exact ih
    | false => rfl
theorem fit_filter {n : Nat} {l : List D} {p : D → Bool} (h : ∀ d ∈ l, d.fit n = true) : (D.lst (l.filter p)).fit (n + 1) = true :=
  fit_lst fun d hd => h d (List.mem_filter.mp hd).1
theorem deep_eq : deep = 59 + 1 := rfl
theorem field_pair {a b : D} (h : isLabel a = false) : isField (.tup [a, b]) = false := by rw [field_tup, h]; rfl
def isStrD : D → Bool
  | .str _ => true
  | _ => false
def isBlD : D → Bool
  | .bl _ => true
  | _ => false
def isWord (ws : List D) (v : D) : Bool := isStrD v && ws.any fun z => z.eq v
def tells : List D := [.str [97, 108, 119, 97, 121, 115], .str [99, 104, 97, 110, 103, 101, 100]]
def answers : List D := [.str [97, 108, 119, 97, 121, 115], .str [99, 104, 97, 110, 103, 101, 100], .str [110, 101, 118, 101, 114]]
def scopes : List D := [.str [102, 105, 101, 108, 100], .str [119, 104, 111, 108, 101]]
def kinds : List D := [.str [99, 111, 112, 121], .str [112, 105, 110, 103]]
theorem con0 : T.C 1 = some (.tup tells) := rfl
theorem con1 : T.C 2 = some (.tup answers) := rfl
theorem con2 : T.C 3 = some (.tup scopes) := rfl
theorem con3 : T.C 4 = some (.tup kinds) := rfl
theorem r5 (k : Nat) {m n : Nat} (hn : n ≤ 60) (ws : List D) (v : D) (hw : D.fitL deep ws = true) (hv : sm m n v = true) : F (k + 1) 5 [.tup ws, v] = pur (.bl (isWord ws v)) := by
  rw [F, runF_at (fd := f5) rfl rfl]
  show bnd (exS _ _ b5 [some (.tup ws), some v]) _ = _
  unfold b5
  have hf : v.fit deep = true := fit_mono hn (sm_fit hv)
  cases v with
  | str s => simp only [ev_var, ev_lit, ev_con, ev_tup, ev_lst, ev_un, ev_bi, ev_ch, ev_not, ev_and, ev_or, ev_ite, ev_cut, ev_call, ev_cel, ev_at0, ev_meth, ev_dct, ev_get2, ev_idx, ev_lam, evL_nil, evL_cons, evO_nil, evO_val, evC_nil, evC_val, itr_val, itr_rng1, itr_rng2, itr_zip, ex_nil, ex_cons, ex_skip, ex_set, ex_own, ex_frz, ex_unp, ex_par, ex_app, ex_put, ex_bad, ex_rse, ex_rsf, ex_try, itr_enu, ex_ret, ex_drop, ex_ite, bnd_assoc, fit_non, fit_bl, fit_int, fit_str, fitL_nil, fitL_cons, eq_ii, eq_ss, eq_bb, List.any_cons, List.any_nil, Bool.or_false, Bool.and_self, Bool.and_true, Bool.true_and, slot0, slotS, ofO_some, some_bnd, pur_bnd, non_bnd, noE_pur, asBl_bl, bnd_ite, if_bl, if_true, if_false, Bool.false_eq_true, Bool.not_true, Bool.not_false, reduceIte, pyAt0, pyAt1, pyAt2, pyAt3, List.getElem?_cons_zero, List.getElem?_cons_succ, u_isStr_non, u_isStr_bl, u_isStr_int, u_isStr_str, u_isStr_tup, u_isStr_lst, u_isStr_own, u_isTup_non, u_isTup_bl, u_isTup_int, u_isTup_str, u_isTup_tup, u_isTup_lst, u_isTup_own, u_isInt_non, u_isInt_bl, u_isInt_int, u_isInt_str, u_isInt_tup, u_isInt_lst, u_isInt_own, u_isBl_non, u_isBl_bl, u_isBl_int, u_isBl_str, u_isBl_tup, u_isBl_lst, u_isBl_own, u_isLst_non, u_isLst_bl, u_isLst_int, u_isLst_str, u_isLst_tup, u_isLst_lst, u_isLst_own, ok_non, ok_bl, ok_int, ok_str, ok_tup, ok_lst, ok_own, ok_ref, u_len_str, u_len_tup, u_len_lst, u_len_own, u_int_int, u_neg_int, u_tuple_tup, u_list_tup, u_tuple_lst, u_list_lst, u_tuple_own, u_list_own, u_rev_tup, u_rev_lst, b_add_int, b_sub_int, b_add_tup, b_add_str, b_add_lst, b_mul_int, b_mod_int, b_fdiv_int, b_eq, b_ne, b_lt_int, b_lt_str, b_le_int, b_le_str, b_gt_int, b_gt_str, b_ge_int, b_ge_str, b_in_tup, b_in_lst, b_nin_tup, b_in_str, b_nin_str, b_is_bl, b_isn_bl, b_ix_tup, b_ix_lst, b_ix_str, eqO_int, eqO_str, eqO_bl, it_tup, it_lst, it_str, intOf_int, zip_tup, zip_lst, rng1_int, rng2_int, cut_tup, cut_lst, set0, setS, bindT1, bindT2, bindP2, ok_pr, sq_lst, sq_own, sq_tup, idx_t, idx_l, idx_o, lam_pur, lam_err, try_pur, try_err, hdR_cons, raise_bnd, enu_tup, sets2, wipe1, wipe2, app_own, frz_own, lstK_lst, isStr_str, enu_lst, map_s, map_n, ofO_n, hw, isWord, isStrD]
  | own l => cases n <;> cases hv
  | ref l => cases n <;> cases hv
  | pr a b => cases n <;> cases hv
  | _ => rfl
theorem fit_labs {n : Nat} {vs : List D} (h : vs.all isLabel = true) : D.fitL n vs = true := by
  rw [fitL_iff]
  intro d hd
  rw [lab_of (List.all_eq_true.mp h d hd)]
  exact fit_str
def rowOk (vals : List D) : D → Bool
  | .tup r => decide (r.length = vals.length) && r.all (isWord vals)
  | _ => false
def pairOk : D → Bool
  | .pr f row => rowOk (valsOf f) row
  | _ => false
def habitsOk (fs : List D) : D → Bool
  | .tup rows => decide (rows.length = fs.length) && (zipL fs rows).all pairOk
  | _ => false
theorem zip_mem {l m : List D} {d : D} (h : d ∈ zipL l m) : ∃ x y, x ∈ l ∧ y ∈ m ∧ d = .pr x y := by
  unfold zipL at h
  obtain ⟨⟨x, y⟩, hp, rfl⟩ := List.mem_map.mp h
  exact ⟨x, y, (List.of_mem_zip hp).1, (List.of_mem_zip hp).2, rfl⟩
theorem r4 (k : Nat) {m n : Nat} (hn : n ≤ 60) (fs : List D) (v : D) (hf : fs.all isField = true) (hv : sm m n v = true) : F (k + 1) 4 [.tup fs, v] = pur (.bl (habitsOk fs v)) := by
  rw [F, runF_at (fd := f4) rfl rfl]
  show bnd (exS _ _ b4 [some (.tup fs), some v, none, none, none]) _ = _
  unfold b4
  cases v with
  | tup rows =>
    obtain ⟨n, rfl⟩ := sm_pos hv
    obtain ⟨_, hrows⟩ := sm_tup.mp hv
    simp only [ev_var, ev_lit, ev_con, ev_tup, ev_lst, ev_un, ev_bi, ev_ch, ev_not, ev_and, ev_or, ev_ite, ev_cut, ev_call, ev_cel, ev_at0, ev_meth, ev_dct, ev_get2, ev_idx, ev_lam, evL_nil, evL_cons, evO_nil, evO_val, evC_nil, evC_val, itr_val, itr_rng1, itr_rng2, itr_zip, ex_nil, ex_cons, ex_skip, ex_set, ex_own, ex_frz, ex_unp, ex_par, ex_app, ex_put, ex_bad, ex_rse, ex_rsf, ex_try, itr_enu, ex_ret, ex_drop, ex_ite, bnd_assoc, fit_non, fit_bl, fit_int, fit_str, fitL_nil, fitL_cons, eq_ii, eq_ss, eq_bb, List.any_cons, List.any_nil, Bool.or_false, Bool.and_self, Bool.and_true, Bool.true_and, slot0, slotS, ofO_some, some_bnd, pur_bnd, non_bnd, noE_pur, asBl_bl, bnd_ite, if_bl, if_true, if_false, Bool.false_eq_true, Bool.not_true, Bool.not_false, reduceIte, pyAt0, pyAt1, pyAt2, pyAt3, List.getElem?_cons_zero, List.getElem?_cons_succ, u_isStr_non, u_isStr_bl, u_isStr_int, u_isStr_str, u_isStr_tup, u_isStr_lst, u_isStr_own, u_isTup_non, u_isTup_bl, u_isTup_int, u_isTup_str, u_isTup_tup, u_isTup_lst, u_isTup_own, u_isInt_non, u_isInt_bl, u_isInt_int, u_isInt_str, u_isInt_tup, u_isInt_lst, u_isInt_own, u_isBl_non, u_isBl_bl, u_isBl_int, u_isBl_str, u_isBl_tup, u_isBl_lst, u_isBl_own, u_isLst_non, u_isLst_bl, u_isLst_int, u_isLst_str, u_isLst_tup, u_isLst_lst, u_isLst_own, ok_non, ok_bl, ok_int, ok_str, ok_tup, ok_lst, ok_own, ok_ref, u_len_str, u_len_tup, u_len_lst, u_len_own, u_int_int, u_neg_int, u_tuple_tup, u_list_tup, u_tuple_lst, u_list_lst, u_tuple_own, u_list_own, u_rev_tup, u_rev_lst, b_add_int, b_sub_int, b_add_tup, b_add_str, b_add_lst, b_mul_int, b_mod_int, b_fdiv_int, b_eq, b_ne, b_lt_int, b_lt_str, b_le_int, b_le_str, b_gt_int, b_gt_str, b_ge_int, b_ge_str, b_in_tup, b_in_lst, b_nin_tup, b_in_str, b_nin_str, b_is_bl, b_isn_bl, b_ix_tup, b_ix_lst, b_ix_str, eqO_int, eqO_str, eqO_bl, it_tup, it_lst, it_str, intOf_int, zip_tup, zip_lst, rng1_int, rng2_int, cut_tup, cut_lst, set0, setS, bindT1, bindT2, bindP2, ok_pr, sq_lst, sq_own, sq_tup, idx_t, idx_l, idx_o, lam_pur, lam_err, try_pur, try_err, hdR_cons, raise_bnd, enu_tup, sets2, wipe1, wipe2, app_own, frz_own, lstK_lst, isStr_str, enu_lst, map_s, map_n, ofO_n, beq_n]
    cases hl : decide (rows.length = fs.length) with
    | false => simp only [ev_var, ev_lit, ev_con, ev_tup, ev_lst, ev_un, ev_bi, ev_ch, ev_not, ev_and, ev_or, ev_ite, ev_cut, ev_call, ev_cel, ev_at0, ev_meth, ev_dct, ev_get2, ev_idx, ev_lam, evL_nil, evL_cons, evO_nil, evO_val, evC_nil, evC_val, itr_val, itr_rng1, itr_rng2, itr_zip, ex_nil, ex_cons, ex_skip, ex_set, ex_own, ex_frz, ex_unp, ex_par, ex_app, ex_put, ex_bad, ex_rse, ex_rsf, ex_try, itr_enu, ex_ret, ex_drop, ex_ite, bnd_assoc, fit_non, fit_bl, fit_int, fit_str, fitL_nil, fitL_cons, eq_ii, eq_ss, eq_bb, List.any_cons, List.any_nil, Bool.or_false, Bool.and_self, Bool.and_true, Bool.true_and, slot0, slotS, ofO_some, some_bnd, pur_bnd, non_bnd, noE_pur, asBl_bl, bnd_ite, if_bl, if_true, if_false, Bool.false_eq_true, Bool.not_true, Bool.not_false, reduceIte, pyAt0, pyAt1, pyAt2, pyAt3, List.getElem?_cons_zero, List.getElem?_cons_succ, u_isStr_non, u_isStr_bl, u_isStr_int, u_isStr_str, u_isStr_tup, u_isStr_lst, u_isStr_own, u_isTup_non, u_isTup_bl, u_isTup_int, u_isTup_str, u_isTup_tup, u_isTup_lst, u_isTup_own, u_isInt_non, u_isInt_bl, u_isInt_int, u_isInt_str, u_isInt_tup, u_isInt_lst, u_isInt_own, u_isBl_non, u_isBl_bl, u_isBl_int, u_isBl_str, u_isBl_tup, u_isBl_lst, u_isBl_own, u_isLst_non, u_isLst_bl, u_isLst_int, u_isLst_str, u_isLst_tup, u_isLst_lst, u_isLst_own, ok_non, ok_bl, ok_int, ok_str, ok_tup, ok_lst, ok_own, ok_ref, u_len_str, u_len_tup, u_len_lst, u_len_own, u_int_int, u_neg_int, u_tuple_tup, u_list_tup, u_tuple_lst, u_list_lst, u_tuple_own, u_list_own, u_rev_tup, u_rev_lst, b_add_int, b_sub_int, b_add_tup, b_add_str, b_add_lst, b_mul_int, b_mod_int, b_fdiv_int, b_eq, b_ne, b_lt_int, b_lt_str, b_le_int, b_le_str, b_gt_int, b_gt_str, b_ge_int, b_ge_str, b_in_tup, b_in_lst, b_nin_tup, b_in_str, b_nin_str, b_is_bl, b_isn_bl, b_ix_tup, b_ix_lst, b_ix_str, eqO_int, eqO_str, eqO_bl, it_tup, it_lst, it_str, intOf_int, zip_tup, zip_lst, rng1_int, rng2_int, cut_tup, cut_lst, set0, setS, bindT1, bindT2, bindP2, ok_pr, sq_lst, sq_own, sq_tup, idx_t, idx_l, idx_o, lam_pur, lam_err, try_pur, try_err, hdR_cons, raise_bnd, enu_tup, sets2, wipe1, wipe2, app_own, frz_own, lstK_lst, isStr_str, enu_lst, map_s, map_n, ofO_n, habitsOk, hl, Bool.false_and]
    | true =>
      simp only [ev_var, ev_lit, ev_con, ev_tup, ev_lst, ev_un, ev_bi, ev_ch, ev_not, ev_and, ev_or, ev_ite, ev_cut, ev_call, ev_cel, ev_at0, ev_meth, ev_dct, ev_get2, ev_idx, ev_lam, evL_nil, evL_cons, evO_nil, evO_val, evC_nil, evC_val, itr_val, itr_rng1, itr_rng2, itr_zip, ex_nil, ex_cons, ex_skip, ex_set, ex_own, ex_frz, ex_unp, ex_par, ex_app, ex_put, ex_bad, ex_rse, ex_rsf, ex_try, itr_enu, ex_ret, ex_drop, ex_ite, bnd_assoc, fit_non, fit_bl, fit_int, fit_str, fitL_nil, fitL_cons, eq_ii, eq_ss, eq_bb, List.any_cons, List.any_nil, Bool.or_false, Bool.and_self, Bool.and_true, Bool.true_and, slot0, slotS, ofO_some, some_bnd, pur_bnd, non_bnd, noE_pur, asBl_bl, bnd_ite, if_bl, if_true, if_false, Bool.false_eq_true, Bool.not_true, Bool.not_false, reduceIte, pyAt0, pyAt1, pyAt2, pyAt3, List.getElem?_cons_zero, List.getElem?_cons_succ, u_isStr_non, u_isStr_bl, u_isStr_int, u_isStr_str, u_isStr_tup, u_isStr_lst, u_isStr_own, u_isTup_non, u_isTup_bl, u_isTup_int, u_isTup_str, u_isTup_tup, u_isTup_lst, u_isTup_own, u_isInt_non, u_isInt_bl, u_isInt_int, u_isInt_str, u_isInt_tup, u_isInt_lst, u_isInt_own, u_isBl_non, u_isBl_bl, u_isBl_int, u_isBl_str, u_isBl_tup, u_isBl_lst, u_isBl_own, u_isLst_non, u_isLst_bl, u_isLst_int, u_isLst_str, u_isLst_tup, u_isLst_lst, u_isLst_own, ok_non, ok_bl, ok_int, ok_str, ok_tup, ok_lst, ok_own, ok_ref, u_len_str, u_len_tup, u_len_lst, u_len_own, u_int_int, u_neg_int, u_tuple_tup, u_list_tup, u_tuple_lst, u_list_lst, u_tuple_own, u_list_own, u_rev_tup, u_rev_lst, b_add_int, b_sub_int, b_add_tup, b_add_str, b_add_lst, b_mul_int, b_mod_int, b_fdiv_int, b_eq, b_ne, b_lt_int, b_lt_str, b_le_int, b_le_str, b_gt_int, b_gt_str, b_ge_int, b_ge_str, b_in_tup, b_in_lst, b_nin_tup, b_in_str, b_nin_str, b_is_bl, b_isn_bl, b_ix_tup, b_ix_lst, b_ix_str, eqO_int, eqO_str, eqO_bl, it_tup, it_lst, it_str, intOf_int, zip_tup, zip_lst, rng1_int, rng2_int, cut_tup, cut_lst, set0, setS, bindT1, bindT2, bindP2, ok_pr, sq_lst, sq_own, sq_tup, idx_t, idx_l, idx_o, lam_pur, lam_err, try_pur, try_err, hdR_cons, raise_bnd, enu_tup, sets2, wipe1, wipe2, app_own, frz_own, lstK_lst, isStr_str, enu_lst, map_s, map_n, ofO_n]
      refine for_good_k (zipL fs rows) (fun ρ => ∃ f r o, ρ = [some (.tup fs), some (.tup rows), f, r, o]) pairOk (.bl false) (by simp only [ev_var, ev_lit, ev_con, ev_tup, ev_lst, ev_un, ev_bi, ev_ch, ev_not, ev_and, ev_or, ev_ite, ev_cut, ev_call, ev_cel, ev_at0, ev_meth, ev_dct, ev_get2, ev_idx, ev_lam, evL_nil, evL_cons, evO_nil, evO_val, evC_nil, evC_val, itr_val, itr_rng1, itr_rng2, itr_zip, ex_nil, ex_cons, ex_skip, ex_set, ex_own, ex_frz, ex_unp, ex_par, ex_app, ex_put, ex_bad, ex_rse, ex_rsf, ex_try, itr_enu, ex_ret, ex_drop, ex_ite, bnd_assoc, fit_non, fit_bl, fit_int, fit_str, fitL_nil, fitL_cons, eq_ii, eq_ss, eq_bb, List.any_cons, List.any_nil, Bool.or_false, Bool.and_self, Bool.and_true, Bool.true_and, slot0, slotS, ofO_some, some_bnd, pur_bnd, non_bnd, noE_pur, asBl_bl, bnd_ite, if_bl, if_true, if_false, Bool.false_eq_true, Bool.not_true, Bool.not_false, reduceIte, pyAt0, pyAt1, pyAt2, pyAt3, List.getElem?_cons_zero, List.getElem?_cons_succ, u_isStr_non, u_isStr_bl, u_isStr_int, u_isStr_str, u_isStr_tup, u_isStr_lst, u_isStr_own, u_isTup_non, u_isTup_bl, u_isTup_int, u_isTup_str, u_isTup_tup, u_isTup_lst, u_isTup_own, u_isInt_non, u_isInt_bl, u_isInt_int, u_isInt_str, u_isInt_tup, u_isInt_lst, u_isInt_own, u_isBl_non, u_isBl_bl, u_isBl_int, u_isBl_str, u_isBl_tup, u_isBl_lst, u_isBl_own, u_isLst_non, u_isLst_bl, u_isLst_int, u_isLst_str, u_isLst_tup, u_isLst_lst, u_isLst_own, ok_non, ok_bl, ok_int, ok_str, ok_tup, ok_lst, ok_own, ok_ref, u_len_str, u_len_tup, u_len_lst, u_len_own, u_int_int, u_neg_int, u_tuple_tup, u_list_tup, u_tuple_lst, u_list_lst, u_tuple_own, u_list_own, u_rev_tup, u_rev_lst, b_add_int, b_sub_int, b_add_tup, b_add_str, b_add_lst, b_mul_int, b_mod_int, b_fdiv_int, b_eq, b_ne, b_lt_int, b_lt_str, b_le_int, b_le_str, b_gt_int, b_gt_str, b_ge_int, b_ge_str, b_in_tup, b_in_lst, b_nin_tup, b_in_str, b_nin_str, b_is_bl, b_isn_bl, b_ix_tup, b_ix_lst, b_ix_str, eqO_int, eqO_str, eqO_bl, it_tup, it_lst, it_str, intOf_int, zip_tup, zip_lst, rng1_int, rng2_int, cut_tup, cut_lst, set0, setS, bindT1, bindT2, bindP2, ok_pr, sq_lst, sq_own, sq_tup, idx_t, idx_l, idx_o, lam_pur, lam_err, try_pur, try_err, hdR_cons, raise_bnd, enu_tup, sets2, wipe1, wipe2, app_own, frz_own, lstK_lst, isStr_str, enu_lst, map_s, map_n, ofO_n]) ⟨_, _, _, rfl⟩ ?_ ?_ ?_
      · rintro d hd _ ⟨f, r, o, rfl⟩
        obtain ⟨x, y, hx, hy, rfl⟩ := zip_mem hd
        obtain ⟨s, vs, rfl, h5, h6, hlab⟩ := field_of (List.all_eq_true.mp hf x hx)
        have hsy := hrows y hy
        cases y with
        | tup r' =>
          obtain ⟨n, rfl⟩ := sm_pos hsy
          obtain ⟨_, hr⟩ := sm_tup.mp hsy
          have hp : pairOk (.pr (.tup [.str s, .tup vs]) (.tup r')) = (decide (r'.length = vs.length) && r'.all (isWord vs)) := rfl
          simp only [ev_var, ev_lit, ev_con, ev_tup, ev_lst, ev_un, ev_bi, ev_ch, ev_not, ev_and, ev_or, ev_ite, ev_cut, ev_call, ev_cel, ev_at0, ev_meth, ev_dct, ev_get2, ev_idx, ev_lam, evL_nil, evL_cons, evO_nil, evO_val, evC_nil, evC_val, itr_val, itr_rng1, itr_rng2, itr_zip, ex_nil, ex_cons, ex_skip, ex_set, ex_own, ex_frz, ex_unp, ex_par, ex_app, ex_put, ex_bad, ex_rse, ex_rsf, ex_try, itr_enu, ex_ret, ex_drop, ex_ite, bnd_assoc, fit_non, fit_bl, fit_int, fit_str, fitL_nil, fitL_cons, eq_ii, eq_ss, eq_bb, List.any_cons, List.any_nil, Bool.or_false, Bool.and_self, Bool.and_true, Bool.true_and, slot0, slotS, ofO_some, some_bnd, pur_bnd, non_bnd, noE_pur, asBl_bl, bnd_ite, if_bl, if_true, if_false, Bool.false_eq_true, Bool.not_true, Bool.not_false, reduceIte, pyAt0, pyAt1, pyAt2, pyAt3, List.getElem?_cons_zero, List.getElem?_cons_succ, u_isStr_non, u_isStr_bl, u_isStr_int, u_isStr_str, u_isStr_tup, u_isStr_lst, u_isStr_own, u_isTup_non, u_isTup_bl, u_isTup_int, u_isTup_str, u_isTup_tup, u_isTup_lst, u_isTup_own, u_isInt_non, u_isInt_bl, u_isInt_int, u_isInt_str, u_isInt_tup, u_isInt_lst, u_isInt_own, u_isBl_non, u_isBl_bl, u_isBl_int, u_isBl_str, u_isBl_tup, u_isBl_lst, u_isBl_own, u_isLst_non, u_isLst_bl, u_isLst_int, u_isLst_str, u_isLst_tup, u_isLst_lst, u_isLst_own, ok_non, ok_bl, ok_int, ok_str, ok_tup, ok_lst, ok_own, ok_ref, u_len_str, u_len_tup, u_len_lst, u_len_own, u_int_int, u_neg_int, u_tuple_tup, u_list_tup, u_tuple_lst, u_list_lst, u_tuple_own, u_list_own, u_rev_tup, u_rev_lst, b_add_int, b_sub_int, b_add_tup, b_add_str, b_add_lst, b_mul_int, b_mod_int, b_fdiv_int, b_eq, b_ne, b_lt_int, b_lt_str, b_le_int, b_le_str, b_gt_int, b_gt_str, b_ge_int, b_ge_str, b_in_tup, b_in_lst, b_nin_tup, b_in_str, b_nin_str, b_is_bl, b_isn_bl, b_ix_tup, b_ix_lst, b_ix_str, eqO_int, eqO_str, eqO_bl, it_tup, it_lst, it_str, intOf_int, zip_tup, zip_lst, rng1_int, rng2_int, cut_tup, cut_lst, set0, setS, bindT1, bindT2, bindP2, ok_pr, sq_lst, sq_own, sq_tup, idx_t, idx_l, idx_o, lam_pur, lam_err, try_pur, try_err, hdR_cons, raise_bnd, enu_tup, sets2, wipe1, wipe2, app_own, frz_own, lstK_lst, isStr_str, enu_lst, map_s, map_n, ofO_n, beq_n]
          rw [hp]
          cases hl2 : decide (r'.length = vs.length) with
          | false =>
            rw [Bool.false_and, if_neg Bool.false_ne_true]
            simp only [ev_var, ev_lit, ev_con, ev_tup, ev_lst, ev_un, ev_bi, ev_ch, ev_not, ev_and, ev_or, ev_ite, ev_cut, ev_call, ev_cel, ev_at0, ev_meth, ev_dct, ev_get2, ev_idx, ev_lam, evL_nil, evL_cons, evO_nil, evO_val, evC_nil, evC_val, itr_val, itr_rng1, itr_rng2, itr_zip, ex_nil, ex_cons, ex_skip, ex_set, ex_own, ex_frz, ex_unp, ex_par, ex_app, ex_put, ex_bad, ex_rse, ex_rsf, ex_try, itr_enu, ex_ret, ex_drop, ex_ite, bnd_assoc, fit_non, fit_bl, fit_int, fit_str, fitL_nil, fitL_cons, eq_ii, eq_ss, eq_bb, List.any_cons, List.any_nil, Bool.or_false, Bool.and_self, Bool.and_true, Bool.true_and, slot0, slotS, ofO_some, some_bnd, pur_bnd, non_bnd, noE_pur, asBl_bl, bnd_ite, if_bl, if_true, if_false, Bool.false_eq_true, Bool.not_true, Bool.not_false, reduceIte, pyAt0, pyAt1, pyAt2, pyAt3, List.getElem?_cons_zero, List.getElem?_cons_succ, u_isStr_non, u_isStr_bl, u_isStr_int, u_isStr_str, u_isStr_tup, u_isStr_lst, u_isStr_own, u_isTup_non, u_isTup_bl, u_isTup_int, u_isTup_str, u_isTup_tup, u_isTup_lst, u_isTup_own, u_isInt_non, u_isInt_bl, u_isInt_int, u_isInt_str, u_isInt_tup, u_isInt_lst, u_isInt_own, u_isBl_non, u_isBl_bl, u_isBl_int, u_isBl_str, u_isBl_tup, u_isBl_lst, u_isBl_own, u_isLst_non, u_isLst_bl, u_isLst_int, u_isLst_str, u_isLst_tup, u_isLst_lst, u_isLst_own, ok_non, ok_bl, ok_int, ok_str, ok_tup, ok_lst, ok_own, ok_ref, u_len_str, u_len_tup, u_len_lst, u_len_own, u_int_int, u_neg_int, u_tuple_tup, u_list_tup, u_tuple_lst, u_list_lst, u_tuple_own, u_list_own, u_rev_tup, u_rev_lst, b_add_int, b_sub_int, b_add_tup, b_add_str, b_add_lst, b_mul_int, b_mod_int, b_fdiv_int, b_eq, b_ne, b_lt_int, b_lt_str, b_le_int, b_le_str, b_gt_int, b_gt_str, b_ge_int, b_ge_str, b_in_tup, b_in_lst, b_nin_tup, b_in_str, b_nin_str, b_is_bl, b_isn_bl, b_ix_tup, b_ix_lst, b_ix_str, eqO_int, eqO_str, eqO_bl, it_tup, it_lst, it_str, intOf_int, zip_tup, zip_lst, rng1_int, rng2_int, cut_tup, cut_lst, set0, setS, bindT1, bindT2, bindP2, ok_pr, sq_lst, sq_own, sq_tup, idx_t, idx_l, idx_o, lam_pur, lam_err, try_pur, try_err, hdR_cons, raise_bnd, enu_tup, sets2, wipe1, wipe2, app_own, frz_own, lstK_lst, isStr_str, enu_lst, map_s, map_n, ofO_n]
          | true =>
            rw [Bool.true_and]
            simp only [ev_var, ev_lit, ev_con, ev_tup, ev_lst, ev_un, ev_bi, ev_ch, ev_not, ev_and, ev_or, ev_ite, ev_cut, ev_call, ev_cel, ev_at0, ev_meth, ev_dct, ev_get2, ev_idx, ev_lam, evL_nil, evL_cons, evO_nil, evO_val, evC_nil, evC_val, itr_val, itr_rng1, itr_rng2, itr_zip, ex_nil, ex_cons, ex_skip, ex_set, ex_own, ex_frz, ex_unp, ex_par, ex_app, ex_put, ex_bad, ex_rse, ex_rsf, ex_try, itr_enu, ex_ret, ex_drop, ex_ite, bnd_assoc, fit_non, fit_bl, fit_int, fit_str, fitL_nil, fitL_cons, eq_ii, eq_ss, eq_bb, List.any_cons, List.any_nil, Bool.or_false, Bool.and_self, Bool.and_true, Bool.true_and, slot0, slotS, ofO_some, some_bnd, pur_bnd, non_bnd, noE_pur, asBl_bl, bnd_ite, if_bl, if_true, if_false, Bool.false_eq_true, Bool.not_true, Bool.not_false, reduceIte, pyAt0, pyAt1, pyAt2, pyAt3, List.getElem?_cons_zero, List.getElem?_cons_succ, u_isStr_non, u_isStr_bl, u_isStr_int, u_isStr_str, u_isStr_tup, u_isStr_lst, u_isStr_own, u_isTup_non, u_isTup_bl, u_isTup_int, u_isTup_str, u_isTup_tup, u_isTup_lst, u_isTup_own, u_isInt_non, u_isInt_bl, u_isInt_int, u_isInt_str, u_isInt_tup, u_isInt_lst, u_isInt_own, u_isBl_non, u_isBl_bl, u_isBl_int, u_isBl_str, u_isBl_tup, u_isBl_lst, u_isBl_own, u_isLst_non, u_isLst_bl, u_isLst_int, u_isLst_str, u_isLst_tup, u_isLst_lst, u_isLst_own, ok_non, ok_bl, ok_int, ok_str, ok_tup, ok_lst, ok_own, ok_ref, u_len_str, u_len_tup, u_len_lst, u_len_own, u_int_int, u_neg_int, u_tuple_tup, u_list_tup, u_tuple_lst, u_list_lst, u_tuple_own, u_list_own, u_rev_tup, u_rev_lst, b_add_int, b_sub_int, b_add_tup, b_add_str, b_add_lst, b_mul_int, b_mod_int, b_fdiv_int, b_eq, b_ne, b_lt_int, b_lt_str, b_le_int, b_le_str, b_gt_int, b_gt_str, b_ge_int, b_ge_str, b_in_tup, b_in_lst, b_nin_tup, b_in_str, b_nin_str, b_is_bl, b_isn_bl, b_ix_tup, b_ix_lst, b_ix_str, eqO_int, eqO_str, eqO_bl, it_tup, it_lst, it_str, intOf_int, zip_tup, zip_lst, rng1_int, rng2_int, cut_tup, cut_lst, set0, setS, bindT1, bindT2, bindP2, ok_pr, sq_lst, sq_own, sq_tup, idx_t, idx_l, idx_o, lam_pur, lam_err, try_pur, try_err, hdR_cons, raise_bnd, enu_tup, sets2, wipe1, wipe2, app_own, frz_own, lstK_lst, isStr_str, enu_lst, map_s, map_n, ofO_n]
            rw [ev_comp_map r' (fun x => x) (fun x => .bl (isWord vs x))]
            · simp only [ev_var, ev_lit, ev_con, ev_tup, ev_lst, ev_un, ev_bi, ev_ch, ev_not, ev_and, ev_or, ev_ite, ev_cut, ev_call, ev_cel, ev_at0, ev_meth, ev_dct, ev_get2, ev_idx, ev_lam, evL_nil, evL_cons, evO_nil, evO_val, evC_nil, evC_val, itr_val, itr_rng1, itr_rng2, itr_zip, ex_nil, ex_cons, ex_skip, ex_set, ex_own, ex_frz, ex_unp, ex_par, ex_app, ex_put, ex_bad, ex_rse, ex_rsf, ex_try, itr_enu, ex_ret, ex_drop, ex_ite, bnd_assoc, fit_non, fit_bl, fit_int, fit_str, fitL_nil, fitL_cons, eq_ii, eq_ss, eq_bb, List.any_cons, List.any_nil, Bool.or_false, Bool.and_self, Bool.and_true, Bool.true_and, slot0, slotS, ofO_some, some_bnd, pur_bnd, non_bnd, noE_pur, asBl_bl, bnd_ite, if_bl, if_true, if_false, Bool.false_eq_true, Bool.not_true, Bool.not_false, reduceIte, pyAt0, pyAt1, pyAt2, pyAt3, List.getElem?_cons_zero, List.getElem?_cons_succ, u_isStr_non, u_isStr_bl, u_isStr_int, u_isStr_str, u_isStr_tup, u_isStr_lst, u_isStr_own, u_isTup_non, u_isTup_bl, u_isTup_int, u_isTup_str, u_isTup_tup, u_isTup_lst, u_isTup_own, u_isInt_non, u_isInt_bl, u_isInt_int, u_isInt_str, u_isInt_tup, u_isInt_lst, u_isInt_own, u_isBl_non, u_isBl_bl, u_isBl_int, u_isBl_str, u_isBl_tup, u_isBl_lst, u_isBl_own, u_isLst_non, u_isLst_bl, u_isLst_int, u_isLst_str, u_isLst_tup, u_isLst_lst, u_isLst_own, ok_non, ok_bl, ok_int, ok_str, ok_tup, ok_lst, ok_own, ok_ref, u_len_str, u_len_tup, u_len_lst, u_len_own, u_int_int, u_neg_int, u_tuple_tup, u_list_tup, u_tuple_lst, u_list_lst, u_tuple_own, u_list_own, u_rev_tup, u_rev_lst, b_add_int, b_sub_int, b_add_tup, b_add_str, b_add_lst, b_mul_int, b_mod_int, b_fdiv_int, b_eq, b_ne, b_lt_int, b_lt_str, b_le_int, b_le_str, b_gt_int, b_gt_str, b_ge_int, b_ge_str, b_in_tup, b_in_lst, b_nin_tup, b_in_str, b_nin_str, b_is_bl, b_isn_bl, b_ix_tup, b_ix_lst, b_ix_str, eqO_int, eqO_str, eqO_bl, it_tup, it_lst, it_str, intOf_int, zip_tup, zip_lst, rng1_int, rng2_int, cut_tup, cut_lst, set0, setS, bindT1, bindT2, bindP2, ok_pr, sq_lst, sq_own, sq_tup, idx_t, idx_l, idx_o, lam_pur, lam_err, try_pur, try_err, hdR_cons, raise_bnd, enu_tup, sets2, wipe1, wipe2, app_own, frz_own, lstK_lst, isStr_str, enu_lst, map_s, map_n, ofO_n, u_all_map]
              cases hal : r'.all (isWord vs) with
              | false =>
                rw [if_neg Bool.false_ne_true]
                simp only [ev_var, ev_lit, ev_con, ev_tup, ev_lst, ev_un, ev_bi, ev_ch, ev_not, ev_and, ev_or, ev_ite, ev_cut, ev_call, ev_cel, ev_at0, ev_meth, ev_dct, ev_get2, ev_idx, ev_lam, evL_nil, evL_cons, evO_nil, evO_val, evC_nil, evC_val, itr_val, itr_rng1, itr_rng2, itr_zip, ex_nil, ex_cons, ex_skip, ex_set, ex_own, ex_frz, ex_unp, ex_par, ex_app, ex_put, ex_bad, ex_rse, ex_rsf, ex_try, itr_enu, ex_ret, ex_drop, ex_ite, bnd_assoc, fit_non, fit_bl, fit_int, fit_str, fitL_nil, fitL_cons, eq_ii, eq_ss, eq_bb, List.any_cons, List.any_nil, Bool.or_false, Bool.and_self, Bool.and_true, Bool.true_and, slot0, slotS, ofO_some, some_bnd, pur_bnd, non_bnd, noE_pur, asBl_bl, bnd_ite, if_bl, if_true, if_false, Bool.false_eq_true, Bool.not_true, Bool.not_false, reduceIte, pyAt0, pyAt1, pyAt2, pyAt3, List.getElem?_cons_zero, List.getElem?_cons_succ, u_isStr_non, u_isStr_bl, u_isStr_int, u_isStr_str, u_isStr_tup, u_isStr_lst, u_isStr_own, u_isTup_non, u_isTup_bl, u_isTup_int, u_isTup_str, u_isTup_tup, u_isTup_lst, u_isTup_own, u_isInt_non, u_isInt_bl, u_isInt_int, u_isInt_str, u_isInt_tup, u_isInt_lst, u_isInt_own, u_isBl_non, u_isBl_bl, u_isBl_int, u_isBl_str, u_isBl_tup, u_isBl_lst, u_isBl_own, u_isLst_non, u_isLst_bl, u_isLst_int, u_isLst_str, u_isLst_tup, u_isLst_lst, u_isLst_own, ok_non, ok_bl, ok_int, ok_str, ok_tup, ok_lst, ok_own, ok_ref, u_len_str, u_len_tup, u_len_lst, u_len_own, u_int_int, u_neg_int, u_tuple_tup, u_list_tup, u_tuple_lst, u_list_lst, u_tuple_own, u_list_own, u_rev_tup, u_rev_lst, b_add_int, b_sub_int, b_add_tup, b_add_str, b_add_lst, b_mul_int, b_mod_int, b_fdiv_int, b_eq, b_ne, b_lt_int, b_lt_str, b_le_int, b_le_str, b_gt_int, b_gt_str, b_ge_int, b_ge_str, b_in_tup, b_in_lst, b_nin_tup, b_in_str, b_nin_str, b_is_bl, b_isn_bl, b_ix_tup, b_ix_lst, b_ix_str, eqO_int, eqO_str, eqO_bl, it_tup, it_lst, it_str, intOf_int, zip_tup, zip_lst, rng1_int, rng2_int, cut_tup, cut_lst, set0, setS, bindT1, bindT2, bindP2, ok_pr, sq_lst, sq_own, sq_tup, idx_t, idx_l, idx_o, lam_pur, lam_err, try_pur, try_err, hdR_cons, raise_bnd, enu_tup, sets2, wipe1, wipe2, app_own, frz_own, lstK_lst, isStr_str, enu_lst, map_s, map_n, ofO_n]
              | true =>
                rw [if_pos rfl]
                simp only [ev_var, ev_lit, ev_con, ev_tup, ev_lst, ev_un, ev_bi, ev_ch, ev_not, ev_and, ev_or, ev_ite, ev_cut, ev_call, ev_cel, ev_at0, ev_meth, ev_dct, ev_get2, ev_idx, ev_lam, evL_nil, evL_cons, evO_nil, evO_val, evC_nil, evC_val, itr_val, itr_rng1, itr_rng2, itr_zip, ex_nil, ex_cons, ex_skip, ex_set, ex_own, ex_frz, ex_unp, ex_par, ex_app, ex_put, ex_bad, ex_rse, ex_rsf, ex_try, itr_enu, ex_ret, ex_drop, ex_ite, bnd_assoc, fit_non, fit_bl, fit_int, fit_str, fitL_nil, fitL_cons, eq_ii, eq_ss, eq_bb, List.any_cons, List.any_nil, Bool.or_false, Bool.and_self, Bool.and_true, Bool.true_and, slot0, slotS, ofO_some, some_bnd, pur_bnd, non_bnd, noE_pur, asBl_bl, bnd_ite, if_bl, if_true, if_false, Bool.false_eq_true, Bool.not_true, Bool.not_false, reduceIte, pyAt0, pyAt1, pyAt2, pyAt3, List.getElem?_cons_zero, List.getElem?_cons_succ, u_isStr_non, u_isStr_bl, u_isStr_int, u_isStr_str, u_isStr_tup, u_isStr_lst, u_isStr_own, u_isTup_non, u_isTup_bl, u_isTup_int, u_isTup_str, u_isTup_tup, u_isTup_lst, u_isTup_own, u_isInt_non, u_isInt_bl, u_isInt_int, u_isInt_str, u_isInt_tup, u_isInt_lst, u_isInt_own, u_isBl_non, u_isBl_bl, u_isBl_int, u_isBl_str, u_isBl_tup, u_isBl_lst, u_isBl_own, u_isLst_non, u_isLst_bl, u_isLst_int, u_isLst_str, u_isLst_tup, u_isLst_lst, u_isLst_own, ok_non, ok_bl, ok_int, ok_str, ok_tup, ok_lst, ok_own, ok_ref, u_len_str, u_len_tup, u_len_lst, u_len_own, u_int_int, u_neg_int, u_tuple_tup, u_list_tup, u_tuple_lst, u_list_lst, u_tuple_own, u_list_own, u_rev_tup, u_rev_lst, b_add_int, b_sub_int, b_add_tup, b_add_str, b_add_lst, b_mul_int, b_mod_int, b_fdiv_int, b_eq, b_ne, b_lt_int, b_lt_str, b_le_int, b_le_str, b_gt_int, b_gt_str, b_ge_int, b_ge_str, b_in_tup, b_in_lst, b_nin_tup, b_in_str, b_nin_str, b_is_bl, b_isn_bl, b_ix_tup, b_ix_lst, b_ix_str, eqO_int, eqO_str, eqO_bl, it_tup, it_lst, it_str, intOf_int, zip_tup, zip_lst, rng1_int, rng2_int, cut_tup, cut_lst, set0, setS, bindT1, bindT2, bindP2, ok_pr, sq_lst, sq_own, sq_tup, idx_t, idx_l, idx_o, lam_pur, lam_err, try_pur, try_err, hdR_cons, raise_bnd, enu_tup, sets2, wipe1, wipe2, app_own, frz_own, lstK_lst, isStr_str, enu_lst, map_s, map_n, ofO_n]
                exact ⟨_, rfl, _, _, _, rfl⟩
            · simp only [ev_var, ev_lit, ev_con, ev_tup, ev_lst, ev_un, ev_bi, ev_ch, ev_not, ev_and, ev_or, ev_ite, ev_cut, ev_call, ev_cel, ev_at0, ev_meth, ev_dct, ev_get2, ev_idx, ev_lam, evL_nil, evL_cons, evO_nil, evO_val, evC_nil, evC_val, itr_val, itr_rng1, itr_rng2, itr_zip, ex_nil, ex_cons, ex_skip, ex_set, ex_own, ex_frz, ex_unp, ex_par, ex_app, ex_put, ex_bad, ex_rse, ex_rsf, ex_try, itr_enu, ex_ret, ex_drop, ex_ite, bnd_assoc, fit_non, fit_bl, fit_int, fit_str, fitL_nil, fitL_cons, eq_ii, eq_ss, eq_bb, List.any_cons, List.any_nil, Bool.or_false, Bool.and_self, Bool.and_true, Bool.true_and, slot0, slotS, ofO_some, some_bnd, pur_bnd, non_bnd, noE_pur, asBl_bl, bnd_ite, if_bl, if_true, if_false, Bool.false_eq_true, Bool.not_true, Bool.not_false, reduceIte, pyAt0, pyAt1, pyAt2, pyAt3, List.getElem?_cons_zero, List.getElem?_cons_succ, u_isStr_non, u_isStr_bl, u_isStr_int, u_isStr_str, u_isStr_tup, u_isStr_lst, u_isStr_own, u_isTup_non, u_isTup_bl, u_isTup_int, u_isTup_str, u_isTup_tup, u_isTup_lst, u_isTup_own, u_isInt_non, u_isInt_bl, u_isInt_int, u_isInt_str, u_isInt_tup, u_isInt_lst, u_isInt_own, u_isBl_non, u_isBl_bl, u_isBl_int, u_isBl_str, u_isBl_tup, u_isBl_lst, u_isBl_own, u_isLst_non, u_isLst_bl, u_isLst_int, u_isLst_str, u_isLst_tup, u_isLst_lst, u_isLst_own, ok_non, ok_bl, ok_int, ok_str, ok_tup, ok_lst, ok_own, ok_ref, u_len_str, u_len_tup, u_len_lst, u_len_own, u_int_int, u_neg_int, u_tuple_tup, u_list_tup, u_tuple_lst, u_list_lst, u_tuple_own, u_list_own, u_rev_tup, u_rev_lst, b_add_int, b_sub_int, b_add_tup, b_add_str, b_add_lst, b_mul_int, b_mod_int, b_fdiv_int, b_eq, b_ne, b_lt_int, b_lt_str, b_le_int, b_le_str, b_gt_int, b_gt_str, b_ge_int, b_ge_str, b_in_tup, b_in_lst, b_nin_tup, b_in_str, b_nin_str, b_is_bl, b_isn_bl, b_ix_tup, b_ix_lst, b_ix_str, eqO_int, eqO_str, eqO_bl, it_tup, it_lst, it_str, intOf_int, zip_tup, zip_lst, rng1_int, rng2_int, cut_tup, cut_lst, set0, setS, bindT1, bindT2, bindP2, ok_pr, sq_lst, sq_own, sq_tup, idx_t, idx_l, idx_o, lam_pur, lam_err, try_pur, try_err, hdR_cons, raise_bnd, enu_tup, sets2, wipe1, wipe2, app_own, frz_own, lstK_lst, isStr_str, enu_lst, map_s, map_n, ofO_n, map_self]
            · intro x hx
              have hfx : x.fit deep = true := fit_mono (show n ≤ 60 by omega) (sm_fit (hr x hx))
              have hsx := hr x hx
              cases x with
              | str q => simp only [ev_var, ev_lit, ev_con, ev_tup, ev_lst, ev_un, ev_bi, ev_ch, ev_not, ev_and, ev_or, ev_ite, ev_cut, ev_call, ev_cel, ev_at0, ev_meth, ev_dct, ev_get2, ev_idx, ev_lam, evL_nil, evL_cons, evO_nil, evO_val, evC_nil, evC_val, itr_val, itr_rng1, itr_rng2, itr_zip, ex_nil, ex_cons, ex_skip, ex_set, ex_own, ex_frz, ex_unp, ex_par, ex_app, ex_put, ex_bad, ex_rse, ex_rsf, ex_try, itr_enu, ex_ret, ex_drop, ex_ite, bnd_assoc, fit_non, fit_bl, fit_int, fit_str, fitL_nil, fitL_cons, eq_ii, eq_ss, eq_bb, List.any_cons, List.any_nil, Bool.or_false, Bool.and_self, Bool.and_true, Bool.true_and, slot0, slotS, ofO_some, some_bnd, pur_bnd, non_bnd, noE_pur, asBl_bl, bnd_ite, if_bl, if_true, if_false, Bool.false_eq_true, Bool.not_true, Bool.not_false, reduceIte, pyAt0, pyAt1, pyAt2, pyAt3, List.getElem?_cons_zero, List.getElem?_cons_succ, u_isStr_non, u_isStr_bl, u_isStr_int, u_isStr_str, u_isStr_tup, u_isStr_lst, u_isStr_own, u_isTup_non, u_isTup_bl, u_isTup_int, u_isTup_str, u_isTup_tup, u_isTup_lst, u_isTup_own, u_isInt_non, u_isInt_bl, u_isInt_int, u_isInt_str, u_isInt_tup, u_isInt_lst, u_isInt_own, u_isBl_non, u_isBl_bl, u_isBl_int, u_isBl_str, u_isBl_tup, u_isBl_lst, u_isBl_own, u_isLst_non, u_isLst_bl, u_isLst_int, u_isLst_str, u_isLst_tup, u_isLst_lst, u_isLst_own, ok_non, ok_bl, ok_int, ok_str, ok_tup, ok_lst, ok_own, ok_ref, u_len_str, u_len_tup, u_len_lst, u_len_own, u_int_int, u_neg_int, u_tuple_tup, u_list_tup, u_tuple_lst, u_list_lst, u_tuple_own, u_list_own, u_rev_tup, u_rev_lst, b_add_int, b_sub_int, b_add_tup, b_add_str, b_add_lst, b_mul_int, b_mod_int, b_fdiv_int, b_eq, b_ne, b_lt_int, b_lt_str, b_le_int, b_le_str, b_gt_int, b_gt_str, b_ge_int, b_ge_str, b_in_tup, b_in_lst, b_nin_tup, b_in_str, b_nin_str, b_is_bl, b_isn_bl, b_ix_tup, b_ix_lst, b_ix_str, eqO_int, eqO_str, eqO_bl, it_tup, it_lst, it_str, intOf_int, zip_tup, zip_lst, rng1_int, rng2_int, cut_tup, cut_lst, set0, setS, bindT1, bindT2, bindP2, ok_pr, sq_lst, sq_own, sq_tup, idx_t, idx_l, idx_o, lam_pur, lam_err, try_pur, try_err, hdR_cons, raise_bnd, enu_tup, sets2, wipe1, wipe2, app_own, frz_own, lstK_lst, isStr_str, enu_lst, map_s, map_n, ofO_n, fit_labs hlab, isWord, isStrD]
              | own l => cases n <;> cases hsx
              | ref l => cases n <;> cases hsx
              | pr a b => cases n <;> cases hsx
              | _ => simp only [ev_var, ev_lit, ev_con, ev_tup, ev_lst, ev_un, ev_bi, ev_ch, ev_not, ev_and, ev_or, ev_ite, ev_cut, ev_call, ev_cel, ev_at0, ev_meth, ev_dct, ev_get2, ev_idx, ev_lam, evL_nil, evL_cons, evO_nil, evO_val, evC_nil, evC_val, itr_val, itr_rng1, itr_rng2, itr_zip, ex_nil, ex_cons, ex_skip, ex_set, ex_own, ex_frz, ex_unp, ex_par, ex_app, ex_put, ex_bad, ex_rse, ex_rsf, ex_try, itr_enu, ex_ret, ex_drop, ex_ite, bnd_assoc, fit_non, fit_bl, fit_int, fit_str, fitL_nil, fitL_cons, eq_ii, eq_ss, eq_bb, List.any_cons, List.any_nil, Bool.or_false, Bool.and_self, Bool.and_true, Bool.true_and, slot0, slotS, ofO_some, some_bnd, pur_bnd, non_bnd, noE_pur, asBl_bl, bnd_ite, if_bl, if_true, if_false, Bool.false_eq_true, Bool.not_true, Bool.not_false, reduceIte, pyAt0, pyAt1, pyAt2, pyAt3, List.getElem?_cons_zero, List.getElem?_cons_succ, u_isStr_non, u_isStr_bl, u_isStr_int, u_isStr_str, u_isStr_tup, u_isStr_lst, u_isStr_own, u_isTup_non, u_isTup_bl, u_isTup_int, u_isTup_str, u_isTup_tup, u_isTup_lst, u_isTup_own, u_isInt_non, u_isInt_bl, u_isInt_int, u_isInt_str, u_isInt_tup, u_isInt_lst, u_isInt_own, u_isBl_non, u_isBl_bl, u_isBl_int, u_isBl_str, u_isBl_tup, u_isBl_lst, u_isBl_own, u_isLst_non, u_isLst_bl, u_isLst_int, u_isLst_str, u_isLst_tup, u_isLst_lst, u_isLst_own, ok_non, ok_bl, ok_int, ok_str, ok_tup, ok_lst, ok_own, ok_ref, u_len_str, u_len_tup, u_len_lst, u_len_own, u_int_int, u_neg_int, u_tuple_tup, u_list_tup, u_tuple_lst, u_list_lst, u_tuple_own, u_list_own, u_rev_tup, u_rev_lst, b_add_int, b_sub_int, b_add_tup, b_add_str, b_add_lst, b_mul_int, b_mod_int, b_fdiv_int, b_eq, b_ne, b_lt_int, b_lt_str, b_le_int, b_le_str, b_gt_int, b_gt_str, b_ge_int, b_ge_str, b_in_tup, b_in_lst, b_nin_tup, b_in_str, b_nin_str, b_is_bl, b_isn_bl, b_ix_tup, b_ix_lst, b_ix_str, eqO_int, eqO_str, eqO_bl, it_tup, it_lst, it_str, intOf_int, zip_tup, zip_lst, rng1_int, rng2_int, cut_tup, cut_lst, set0, setS, bindT1, bindT2, bindP2, ok_pr, sq_lst, sq_own, sq_tup, idx_t, idx_l, idx_o, lam_pur, lam_err, try_pur, try_err, hdR_cons, raise_bnd, enu_tup, sets2, wipe1, wipe2, app_own, frz_own, lstK_lst, isStr_str, enu_lst, map_s, map_n, ofO_n, isWord, isStrD, Bool.false_and]
        | own l => cases n <;> cases hsy
        | ref l => cases n <;> cases hsy
        | pr a b => cases n <;> cases hsy
        | _ => simp only [ev_var, ev_lit, ev_con, ev_tup, ev_lst, ev_un, ev_bi, ev_ch, ev_not, ev_and, ev_or, ev_ite, ev_cut, ev_call, ev_cel, ev_at0, ev_meth, ev_dct, ev_get2, ev_idx, ev_lam, evL_nil, evL_cons, evO_nil, evO_val, evC_nil, evC_val, itr_val, itr_rng1, itr_rng2, itr_zip, ex_nil, ex_cons, ex_skip, ex_set, ex_own, ex_frz, ex_unp, ex_par, ex_app, ex_put, ex_bad, ex_rse, ex_rsf, ex_try, itr_enu, ex_ret, ex_drop, ex_ite, bnd_assoc, fit_non, fit_bl, fit_int, fit_str, fitL_nil, fitL_cons, eq_ii, eq_ss, eq_bb, List.any_cons, List.any_nil, Bool.or_false, Bool.and_self, Bool.and_true, Bool.true_and, slot0, slotS, ofO_some, some_bnd, pur_bnd, non_bnd, noE_pur, asBl_bl, bnd_ite, if_bl, if_true, if_false, Bool.false_eq_true, Bool.not_true, Bool.not_false, reduceIte, pyAt0, pyAt1, pyAt2, pyAt3, List.getElem?_cons_zero, List.getElem?_cons_succ, u_isStr_non, u_isStr_bl, u_isStr_int, u_isStr_str, u_isStr_tup, u_isStr_lst, u_isStr_own, u_isTup_non, u_isTup_bl, u_isTup_int, u_isTup_str, u_isTup_tup, u_isTup_lst, u_isTup_own, u_isInt_non, u_isInt_bl, u_isInt_int, u_isInt_str, u_isInt_tup, u_isInt_lst, u_isInt_own, u_isBl_non, u_isBl_bl, u_isBl_int, u_isBl_str, u_isBl_tup, u_isBl_lst, u_isBl_own, u_isLst_non, u_isLst_bl, u_isLst_int, u_isLst_str, u_isLst_tup, u_isLst_lst, u_isLst_own, ok_non, ok_bl, ok_int, ok_str, ok_tup, ok_lst, ok_own, ok_ref, u_len_str, u_len_tup, u_len_lst, u_len_own, u_int_int, u_neg_int, u_tuple_tup, u_list_tup, u_tuple_lst, u_list_lst, u_tuple_own, u_list_own, u_rev_tup, u_rev_lst, b_add_int, b_sub_int, b_add_tup, b_add_str, b_add_lst, b_mul_int, b_mod_int, b_fdiv_int, b_eq, b_ne, b_lt_int, b_lt_str, b_le_int, b_le_str, b_gt_int, b_gt_str, b_ge_int, b_ge_str, b_in_tup, b_in_lst, b_nin_tup, b_in_str, b_nin_str, b_is_bl, b_isn_bl, b_ix_tup, b_ix_lst, b_ix_str, eqO_int, eqO_str, eqO_bl, it_tup, it_lst, it_str, intOf_int, zip_tup, zip_lst, rng1_int, rng2_int, cut_tup, cut_lst, set0, setS, bindT1, bindT2, bindP2, ok_pr, sq_lst, sq_own, sq_tup, idx_t, idx_l, idx_o, lam_pur, lam_err, try_pur, try_err, hdR_cons, raise_bnd, enu_tup, sets2, wipe1, wipe2, app_own, frz_own, lstK_lst, isStr_str, enu_lst, map_s, map_n, ofO_n, pairOk, rowOk]
      · rintro hal _ ⟨f, r, o, rfl⟩
        show bnd _ _ = _
        simp only [ev_var, ev_lit, ev_con, ev_tup, ev_lst, ev_un, ev_bi, ev_ch, ev_not, ev_and, ev_or, ev_ite, ev_cut, ev_call, ev_cel, ev_at0, ev_meth, ev_dct, ev_get2, ev_idx, ev_lam, evL_nil, evL_cons, evO_nil, evO_val, evC_nil, evC_val, itr_val, itr_rng1, itr_rng2, itr_zip, ex_nil, ex_cons, ex_skip, ex_set, ex_own, ex_frz, ex_unp, ex_par, ex_app, ex_put, ex_bad, ex_rse, ex_rsf, ex_try, itr_enu, ex_ret, ex_drop, ex_ite, bnd_assoc, fit_non, fit_bl, fit_int, fit_str, fitL_nil, fitL_cons, eq_ii, eq_ss, eq_bb, List.any_cons, List.any_nil, Bool.or_false, Bool.and_self, Bool.and_true, Bool.true_and, slot0, slotS, ofO_some, some_bnd, pur_bnd, non_bnd, noE_pur, asBl_bl, bnd_ite, if_bl, if_true, if_false, Bool.false_eq_true, Bool.not_true, Bool.not_false, reduceIte, pyAt0, pyAt1, pyAt2, pyAt3, List.getElem?_cons_zero, List.getElem?_cons_succ, u_isStr_non, u_isStr_bl, u_isStr_int, u_isStr_str, u_isStr_tup, u_isStr_lst, u_isStr_own, u_isTup_non, u_isTup_bl, u_isTup_int, u_isTup_str, u_isTup_tup, u_isTup_lst, u_isTup_own, u_isInt_non, u_isInt_bl, u_isInt_int, u_isInt_str, u_isInt_tup, u_isInt_lst, u_isInt_own, u_isBl_non, u_isBl_bl, u_isBl_int, u_isBl_str, u_isBl_tup, u_isBl_lst, u_isBl_own, u_isLst_non, u_isLst_bl, u_isLst_int, u_isLst_str, u_isLst_tup, u_isLst_lst, u_isLst_own, ok_non, ok_bl, ok_int, ok_str, ok_tup, ok_lst, ok_own, ok_ref, u_len_str, u_len_tup, u_len_lst, u_len_own, u_int_int, u_neg_int, u_tuple_tup, u_list_tup, u_tuple_lst, u_list_lst, u_tuple_own, u_list_own, u_rev_tup, u_rev_lst, b_add_int, b_sub_int, b_add_tup, b_add_str, b_add_lst, b_mul_int, b_mod_int, b_fdiv_int, b_eq, b_ne, b_lt_int, b_lt_str, b_le_int, b_le_str, b_gt_int, b_gt_str, b_ge_int, b_ge_str, b_in_tup, b_in_lst, b_nin_tup, b_in_str, b_nin_str, b_is_bl, b_isn_bl, b_ix_tup, b_ix_lst, b_ix_str, eqO_int, eqO_str, eqO_bl, it_tup, it_lst, it_str, intOf_int, zip_tup, zip_lst, rng1_int, rng2_int, cut_tup, cut_lst, set0, setS, bindT1, bindT2, bindP2, ok_pr, sq_lst, sq_own, sq_tup, idx_t, idx_l, idx_o, lam_pur, lam_err, try_pur, try_err, hdR_cons, raise_bnd, enu_tup, sets2, wipe1, wipe2, app_own, frz_own, lstK_lst, isStr_str, enu_lst, map_s, map_n, ofO_n, habitsOk, hl, hal]
      · intro hal
        show bnd _ _ = _
        simp only [ev_var, ev_lit, ev_con, ev_tup, ev_lst, ev_un, ev_bi, ev_ch, ev_not, ev_and, ev_or, ev_ite, ev_cut, ev_call, ev_cel, ev_at0, ev_meth, ev_dct, ev_get2, ev_idx, ev_lam, evL_nil, evL_cons, evO_nil, evO_val, evC_nil, evC_val, itr_val, itr_rng1, itr_rng2, itr_zip, ex_nil, ex_cons, ex_skip, ex_set, ex_own, ex_frz, ex_unp, ex_par, ex_app, ex_put, ex_bad, ex_rse, ex_rsf, ex_try, itr_enu, ex_ret, ex_drop, ex_ite, bnd_assoc, fit_non, fit_bl, fit_int, fit_str, fitL_nil, fitL_cons, eq_ii, eq_ss, eq_bb, List.any_cons, List.any_nil, Bool.or_false, Bool.and_self, Bool.and_true, Bool.true_and, slot0, slotS, ofO_some, some_bnd, pur_bnd, non_bnd, noE_pur, asBl_bl, bnd_ite, if_bl, if_true, if_false, Bool.false_eq_true, Bool.not_true, Bool.not_false, reduceIte, pyAt0, pyAt1, pyAt2, pyAt3, List.getElem?_cons_zero, List.getElem?_cons_succ, u_isStr_non, u_isStr_bl, u_isStr_int, u_isStr_str, u_isStr_tup, u_isStr_lst, u_isStr_own, u_isTup_non, u_isTup_bl, u_isTup_int, u_isTup_str, u_isTup_tup, u_isTup_lst, u_isTup_own, u_isInt_non, u_isInt_bl, u_isInt_int, u_isInt_str, u_isInt_tup, u_isInt_lst, u_isInt_own, u_isBl_non, u_isBl_bl, u_isBl_int, u_isBl_str, u_isBl_tup, u_isBl_lst, u_isBl_own, u_isLst_non, u_isLst_bl, u_isLst_int, u_isLst_str, u_isLst_tup, u_isLst_lst, u_isLst_own, ok_non, ok_bl, ok_int, ok_str, ok_tup, ok_lst, ok_own, ok_ref, u_len_str, u_len_tup, u_len_lst, u_len_own, u_int_int, u_neg_int, u_tuple_tup, u_list_tup, u_tuple_lst, u_list_lst, u_tuple_own, u_list_own, u_rev_tup, u_rev_lst, b_add_int, b_sub_int, b_add_tup, b_add_str, b_add_lst, b_mul_int, b_mod_int, b_fdiv_int, b_eq, b_ne, b_lt_int, b_lt_str, b_le_int, b_le_str, b_gt_int, b_gt_str, b_ge_int, b_ge_str, b_in_tup, b_in_lst, b_nin_tup, b_in_str, b_nin_str, b_is_bl, b_isn_bl, b_ix_tup, b_ix_lst, b_ix_str, eqO_int, eqO_str, eqO_bl, it_tup, it_lst, it_str, intOf_int, zip_tup, zip_lst, rng1_int, rng2_int, cut_tup, cut_lst, set0, setS, bindT1, bindT2, bindP2, ok_pr, sq_lst, sq_own, sq_tup, idx_t, idx_l, idx_o, lam_pur, lam_err, try_pur, try_err, hdR_cons, raise_bnd, enu_tup, sets2, wipe1, wipe2, app_own, frz_own, lstK_lst, isStr_str, enu_lst, map_s, map_n, ofO_n, habitsOk, hl, hal]
  | own l => cases n <;> cases hv
  | ref l => cases n <;> cases hv
  | pr a b => cases n <;> cases hv
  | _ => rfl
def isSide (fs : List D) : D → Bool
  | .tup [h, a, b, c] => habitsOk fs h && (isWord tells a && (isWord answers b && isBlD c))
  | _ => false
theorem side_tup {fs : List D} {h a b c : D} : isSide fs (.tup [h, a, b, c]) = (habitsOk fs h && (isWord tells a && (isWord answers b && isBlD c))) := rfl
theorem side_not {fs l : List D} (h : l.length ≠ 4) : isSide fs (.tup l) = false := by
  match l, h with
  | [], _ => rfl
  | [_], _ => rfl
  | [_, _], _ => rfl
  | [_, _, _], _ => rfl
  | [_, _, _, _], h => exact absurd rfl h
  | _ :: _ :: _ :: _ :: _ :: _, _ => rfl
theorem sm4 {m n : Nat} {a b c d : D} (h : sm m (n + 1) (.tup [a, b, c, d]) = true) : sm m n a = true ∧ sm m n b = true ∧ sm m n c = true ∧ sm m n d = true :=
  ⟨(sm_tup.mp h).2 a (by simp), (sm_tup.mp h).2 b (by simp), (sm_tup.mp h).2 c (by simp), (sm_tup.mp h).2 d (by simp)⟩
theorem ok_tup' {l : List D} : asOk (.tup l) = pur (.tup l) := rfl
theorem isbl {m n : Nat} {c : D} (h : sm m n c = true) : uop .isBl c = some (.bl (isBlD c)) := by
  cases c with
  | ref l => cases n <;> cases h
  | pr a b => cases n <;> cases h
  | own l => cases n <;> cases h
  | _ => rfl
theorem ftells : D.fitL deep tells = true := rfl
theorem fanswers : D.fitL deep answers = true := rfl
theorem fscopes : D.fitL deep scopes = true := rfl
theorem fkinds : D.fitL deep kinds = true := rfl
theorem len4' {a b c d : D} : ((([a, b, c, d] : List D).length : Nat) : Int) = 4 := rfl
theorem r6 (k : Nat) {m n : Nat} (hn : n ≤ 60) (fs : List D) (v : D) (hf : fs.all isField = true) (hv : sm m n v = true) : F (k + 2) 6 [.tup fs, v] = pur (.bl (isSide fs v)) := by
  rw [F, runF_at (fd := f6) rfl rfl]
  show bnd (exS _ _ b6 [some (.tup fs), some v]) _ = _
  unfold b6
  cases v with
  | tup l =>
    obtain ⟨n, rfl⟩ := sm_pos hv
    by_cases hl : l.length = 4
    · obtain ⟨h, a, b, c, rfl⟩ := len4 hl
      obtain ⟨hh, ha, hb, hc⟩ := sm4 hv
      have q4 := r4 k (by omega) fs h hf hh
      have qa := r5 k (by omega) tells a ftells ha
      have qb := r5 k (by omega) answers b fanswers hb
      simp only [ev_var, ev_lit, ev_con, ev_tup, ev_lst, ev_un, ev_bi, ev_ch, ev_not, ev_and, ev_or, ev_ite, ev_cut, ev_call, ev_cel, ev_at0, ev_meth, ev_dct, ev_get2, ev_idx, ev_lam, evL_nil, evL_cons, evO_nil, evO_val, evC_nil, evC_val, itr_val, itr_rng1, itr_rng2, itr_zip, ex_nil, ex_cons, ex_skip, ex_set, ex_own, ex_frz, ex_unp, ex_par, ex_app, ex_put, ex_bad, ex_rse, ex_rsf, ex_try, itr_enu, ex_ret, ex_drop, ex_ite, bnd_assoc, fit_non, fit_bl, fit_int, fit_str, fitL_nil, fitL_cons, eq_ii, eq_ss, eq_bb, List.any_cons, List.any_nil, Bool.or_false, Bool.and_self, Bool.and_true, Bool.true_and, slot0, slotS, ofO_some, some_bnd, pur_bnd, non_bnd, noE_pur, asBl_bl, bnd_ite, if_bl, if_true, if_false, Bool.false_eq_true, Bool.not_true, Bool.not_false, reduceIte, pyAt0, pyAt1, pyAt2, pyAt3, List.getElem?_cons_zero, List.getElem?_cons_succ, u_isStr_non, u_isStr_bl, u_isStr_int, u_isStr_str, u_isStr_tup, u_isStr_lst, u_isStr_own, u_isTup_non, u_isTup_bl, u_isTup_int, u_isTup_str, u_isTup_tup, u_isTup_lst, u_isTup_own, u_isInt_non, u_isInt_bl, u_isInt_int, u_isInt_str, u_isInt_tup, u_isInt_lst, u_isInt_own, u_isBl_non, u_isBl_bl, u_isBl_int, u_isBl_str, u_isBl_tup, u_isBl_lst, u_isBl_own, u_isLst_non, u_isLst_bl, u_isLst_int, u_isLst_str, u_isLst_tup, u_isLst_lst, u_isLst_own, ok_non, ok_bl, ok_int, ok_str, ok_tup, ok_lst, ok_own, ok_ref, u_len_str, u_len_tup, u_len_lst, u_len_own, u_int_int, u_neg_int, u_tuple_tup, u_list_tup, u_tuple_lst, u_list_lst, u_tuple_own, u_list_own, u_rev_tup, u_rev_lst, b_add_int, b_sub_int, b_add_tup, b_add_str, b_add_lst, b_mul_int, b_mod_int, b_fdiv_int, b_eq, b_ne, b_lt_int, b_lt_str, b_le_int, b_le_str, b_gt_int, b_gt_str, b_ge_int, b_ge_str, b_in_tup, b_in_lst, b_nin_tup, b_in_str, b_nin_str, b_is_bl, b_isn_bl, b_ix_tup, b_ix_lst, b_ix_str, eqO_int, eqO_str, eqO_bl, it_tup, it_lst, it_str, intOf_int, zip_tup, zip_lst, rng1_int, rng2_int, cut_tup, cut_lst, set0, setS, bindT1, bindT2, bindP2, ok_pr, sq_lst, sq_own, sq_tup, idx_t, idx_l, idx_o, lam_pur, lam_err, try_pur, try_err, hdR_cons, raise_bnd, enu_tup, sets2, wipe1, wipe2, app_own, frz_own, lstK_lst, isStr_str, enu_lst, map_s, map_n, ofO_n, len4', sm_ok hh, sm_ok ha, sm_ok hb, q4, con0, con1, qa, qb, isbl hc, side_tup, beq_self_eq_true]
      cases habitsOk fs h <;> cases isWord tells a <;> cases isWord answers b <;> simp only [ev_var, ev_lit, ev_con, ev_tup, ev_lst, ev_un, ev_bi, ev_ch, ev_not, ev_and, ev_or, ev_ite, ev_cut, ev_call, ev_cel, ev_at0, ev_meth, ev_dct, ev_get2, ev_idx, ev_lam, evL_nil, evL_cons, evO_nil, evO_val, evC_nil, evC_val, itr_val, itr_rng1, itr_rng2, itr_zip, ex_nil, ex_cons, ex_skip, ex_set, ex_own, ex_frz, ex_unp, ex_par, ex_app, ex_put, ex_bad, ex_rse, ex_rsf, ex_try, itr_enu, ex_ret, ex_drop, ex_ite, bnd_assoc, fit_non, fit_bl, fit_int, fit_str, fitL_nil, fitL_cons, eq_ii, eq_ss, eq_bb, List.any_cons, List.any_nil, Bool.or_false, Bool.and_self, Bool.and_true, Bool.true_and, slot0, slotS, ofO_some, some_bnd, pur_bnd, non_bnd, noE_pur, asBl_bl, bnd_ite, if_bl, if_true, if_false, Bool.false_eq_true, Bool.not_true, Bool.not_false, reduceIte, pyAt0, pyAt1, pyAt2, pyAt3, List.getElem?_cons_zero, List.getElem?_cons_succ, u_isStr_non, u_isStr_bl, u_isStr_int, u_isStr_str, u_isStr_tup, u_isStr_lst, u_isStr_own, u_isTup_non, u_isTup_bl, u_isTup_int, u_isTup_str, u_isTup_tup, u_isTup_lst, u_isTup_own, u_isInt_non, u_isInt_bl, u_isInt_int, u_isInt_str, u_isInt_tup, u_isInt_lst, u_isInt_own, u_isBl_non, u_isBl_bl, u_isBl_int, u_isBl_str, u_isBl_tup, u_isBl_lst, u_isBl_own, u_isLst_non, u_isLst_bl, u_isLst_int, u_isLst_str, u_isLst_tup, u_isLst_lst, u_isLst_own, ok_non, ok_bl, ok_int, ok_str, ok_tup, ok_lst, ok_own, ok_ref, u_len_str, u_len_tup, u_len_lst, u_len_own, u_int_int, u_neg_int, u_tuple_tup, u_list_tup, u_tuple_lst, u_list_lst, u_tuple_own, u_list_own, u_rev_tup, u_rev_lst, b_add_int, b_sub_int, b_add_tup, b_add_str, b_add_lst, b_mul_int, b_mod_int, b_fdiv_int, b_eq, b_ne, b_lt_int, b_lt_str, b_le_int, b_le_str, b_gt_int, b_gt_str, b_ge_int, b_ge_str, b_in_tup, b_in_lst, b_nin_tup, b_in_str, b_nin_str, b_is_bl, b_isn_bl, b_ix_tup, b_ix_lst, b_ix_str, eqO_int, eqO_str, eqO_bl, it_tup, it_lst, it_str, intOf_int, zip_tup, zip_lst, rng1_int, rng2_int, cut_tup, cut_lst, set0, setS, bindT1, bindT2, bindP2, ok_pr, sq_lst, sq_own, sq_tup, idx_t, idx_l, idx_o, lam_pur, lam_err, try_pur, try_err, hdR_cons, raise_bnd, enu_tup, sets2, wipe1, wipe2, app_own, frz_own, lstK_lst, isStr_str, enu_lst, map_s, map_n, ofO_n, Bool.false_and]
    · simp only [ev_var, ev_lit, ev_con, ev_tup, ev_lst, ev_un, ev_bi, ev_ch, ev_not, ev_and, ev_or, ev_ite, ev_cut, ev_call, ev_cel, ev_at0, ev_meth, ev_dct, ev_get2, ev_idx, ev_lam, evL_nil, evL_cons, evO_nil, evO_val, evC_nil, evC_val, itr_val, itr_rng1, itr_rng2, itr_zip, ex_nil, ex_cons, ex_skip, ex_set, ex_own, ex_frz, ex_unp, ex_par, ex_app, ex_put, ex_bad, ex_rse, ex_rsf, ex_try, itr_enu, ex_ret, ex_drop, ex_ite, bnd_assoc, fit_non, fit_bl, fit_int, fit_str, fitL_nil, fitL_cons, eq_ii, eq_ss, eq_bb, List.any_cons, List.any_nil, Bool.or_false, Bool.and_self, Bool.and_true, Bool.true_and, slot0, slotS, ofO_some, some_bnd, pur_bnd, non_bnd, noE_pur, asBl_bl, bnd_ite, if_bl, if_true, if_false, Bool.false_eq_true, Bool.not_true, Bool.not_false, reduceIte, pyAt0, pyAt1, pyAt2, pyAt3, List.getElem?_cons_zero, List.getElem?_cons_succ, u_isStr_non, u_isStr_bl, u_isStr_int, u_isStr_str, u_isStr_tup, u_isStr_lst, u_isStr_own, u_isTup_non, u_isTup_bl, u_isTup_int, u_isTup_str, u_isTup_tup, u_isTup_lst, u_isTup_own, u_isInt_non, u_isInt_bl, u_isInt_int, u_isInt_str, u_isInt_tup, u_isInt_lst, u_isInt_own, u_isBl_non, u_isBl_bl, u_isBl_int, u_isBl_str, u_isBl_tup, u_isBl_lst, u_isBl_own, u_isLst_non, u_isLst_bl, u_isLst_int, u_isLst_str, u_isLst_tup, u_isLst_lst, u_isLst_own, ok_non, ok_bl, ok_int, ok_str, ok_tup, ok_lst, ok_own, ok_ref, u_len_str, u_len_tup, u_len_lst, u_len_own, u_int_int, u_neg_int, u_tuple_tup, u_list_tup, u_tuple_lst, u_list_lst, u_tuple_own, u_list_own, u_rev_tup, u_rev_lst, b_add_int, b_sub_int, b_add_tup, b_add_str, b_add_lst, b_mul_int, b_mod_int, b_fdiv_int, b_eq, b_ne, b_lt_int, b_lt_str, b_le_int, b_le_str, b_gt_int, b_gt_str, b_ge_int, b_ge_str, b_in_tup, b_in_lst, b_nin_tup, b_in_str, b_nin_str, b_is_bl, b_isn_bl, b_ix_tup, b_ix_lst, b_ix_str, eqO_int, eqO_str, eqO_bl, it_tup, it_lst, it_str, intOf_int, zip_tup, zip_lst, rng1_int, rng2_int, cut_tup, cut_lst, set0, setS, bindT1, bindT2, bindP2, ok_pr, sq_lst, sq_own, sq_tup, idx_t, idx_l, idx_o, lam_pur, lam_err, try_pur, try_err, hdR_cons, raise_bnd, enu_tup, sets2, wipe1, wipe2, app_own, frz_own, lstK_lst, isStr_str, enu_lst, map_s, map_n, ofO_n, beq4, hl, decide_false, side_not hl]
  | own l => cases n <;> cases hv
  | ref l => cases n <;> cases hv
  | pr a b => cases n <;> cases hv
  | _ => rfl
def isWay : D → Bool
  | .tup [a, b, c, d] => isWord scopes a && (isWord kinds b && (isBlD c && isBlD d))
  | _ => false
theorem way_tup {h a b c : D} : isWay (.tup [h, a, b, c]) = (isWord scopes h && (isWord kinds a && (isBlD b && isBlD c))) := rfl
theorem way_not {l : List D} (h : l.length ≠ 4) : isWay (.tup l) = false := by
  match l, h with
  | [], _ => rfl
  | [_], _ => rfl
  | [_, _], _ => rfl
  | [_, _, _], _ => rfl
  | [_, _, _, _], h => exact absurd rfl h
  | _ :: _ :: _ :: _ :: _ :: _, _ => rfl
theorem r7 (k : Nat) {m n : Nat} (hn : n ≤ 60) (v : D) (hv : sm m n v = true) : F (k + 2) 7 [v] = pur (.bl (isWay v)) := by
  rw [F, runF_at (fd := f7) rfl rfl]
  show bnd (exS _ _ b7 [some v]) _ = _
  unfold b7
  cases v with
  | tup l =>
    obtain ⟨n, rfl⟩ := sm_pos hv
    by_cases hl : l.length = 4
    · obtain ⟨h, a, b, c, rfl⟩ := len4 hl
      obtain ⟨hh, ha, hb, hc⟩ := sm4 hv
      have qh := r5 k (by omega) scopes h fscopes hh
      have qa := r5 k (by omega) kinds a fkinds ha
      simp only [ev_var, ev_lit, ev_con, ev_tup, ev_lst, ev_un, ev_bi, ev_ch, ev_not, ev_and, ev_or, ev_ite, ev_cut, ev_call, ev_cel, ev_at0, ev_meth, ev_dct, ev_get2, ev_idx, ev_lam, evL_nil, evL_cons, evO_nil, evO_val, evC_nil, evC_val, itr_val, itr_rng1, itr_rng2, itr_zip, ex_nil, ex_cons, ex_skip, ex_set, ex_own, ex_frz, ex_unp, ex_par, ex_app, ex_put, ex_bad, ex_rse, ex_rsf, ex_try, itr_enu, ex_ret, ex_drop, ex_ite, bnd_assoc, fit_non, fit_bl, fit_int, fit_str, fitL_nil, fitL_cons, eq_ii, eq_ss, eq_bb, List.any_cons, List.any_nil, Bool.or_false, Bool.and_self, Bool.and_true, Bool.true_and, slot0, slotS, ofO_some, some_bnd, pur_bnd, non_bnd, noE_pur, asBl_bl, bnd_ite, if_bl, if_true, if_false, Bool.false_eq_true, Bool.not_true, Bool.not_false, reduceIte, pyAt0, pyAt1, pyAt2, pyAt3, List.getElem?_cons_zero, List.getElem?_cons_succ, u_isStr_non, u_isStr_bl, u_isStr_int, u_isStr_str, u_isStr_tup, u_isStr_lst, u_isStr_own, u_isTup_non, u_isTup_bl, u_isTup_int, u_isTup_str, u_isTup_tup, u_isTup_lst, u_isTup_own, u_isInt_non, u_isInt_bl, u_isInt_int, u_isInt_str, u_isInt_tup, u_isInt_lst, u_isInt_own, u_isBl_non, u_isBl_bl, u_isBl_int, u_isBl_str, u_isBl_tup, u_isBl_lst, u_isBl_own, u_isLst_non, u_isLst_bl, u_isLst_int, u_isLst_str, u_isLst_tup, u_isLst_lst, u_isLst_own, ok_non, ok_bl, ok_int, ok_str, ok_tup, ok_lst, ok_own, ok_ref, u_len_str, u_len_tup, u_len_lst, u_len_own, u_int_int, u_neg_int, u_tuple_tup, u_list_tup, u_tuple_lst, u_list_lst, u_tuple_own, u_list_own, u_rev_tup, u_rev_lst, b_add_int, b_sub_int, b_add_tup, b_add_str, b_add_lst, b_mul_int, b_mod_int, b_fdiv_int, b_eq, b_ne, b_lt_int, b_lt_str, b_le_int, b_le_str, b_gt_int, b_gt_str, b_ge_int, b_ge_str, b_in_tup, b_in_lst, b_nin_tup, b_in_str, b_nin_str, b_is_bl, b_isn_bl, b_ix_tup, b_ix_lst, b_ix_str, eqO_int, eqO_str, eqO_bl, it_tup, it_lst, it_str, intOf_int, zip_tup, zip_lst, rng1_int, rng2_int, cut_tup, cut_lst, set0, setS, bindT1, bindT2, bindP2, ok_pr, sq_lst, sq_own, sq_tup, idx_t, idx_l, idx_o, lam_pur, lam_err, try_pur, try_err, hdR_cons, raise_bnd, enu_tup, sets2, wipe1, wipe2, app_own, frz_own, lstK_lst, isStr_str, enu_lst, map_s, map_n, ofO_n, len4', sm_ok hh, sm_ok ha, con2, con3, qh, qa, isbl hb, isbl hc, way_tup, beq_self_eq_true]
      cases isWord scopes h <;> cases isWord kinds a <;> cases isBlD b <;> simp only [ev_var, ev_lit, ev_con, ev_tup, ev_lst, ev_un, ev_bi, ev_ch, ev_not, ev_and, ev_or, ev_ite, ev_cut, ev_call, ev_cel, ev_at0, ev_meth, ev_dct, ev_get2, ev_idx, ev_lam, evL_nil, evL_cons, evO_nil, evO_val, evC_nil, evC_val, itr_val, itr_rng1, itr_rng2, itr_zip, ex_nil, ex_cons, ex_skip, ex_set, ex_own, ex_frz, ex_unp, ex_par, ex_app, ex_put, ex_bad, ex_rse, ex_rsf, ex_try, itr_enu, ex_ret, ex_drop, ex_ite, bnd_assoc, fit_non, fit_bl, fit_int, fit_str, fitL_nil, fitL_cons, eq_ii, eq_ss, eq_bb, List.any_cons, List.any_nil, Bool.or_false, Bool.and_self, Bool.and_true, Bool.true_and, slot0, slotS, ofO_some, some_bnd, pur_bnd, non_bnd, noE_pur, asBl_bl, bnd_ite, if_bl, if_true, if_false, Bool.false_eq_true, Bool.not_true, Bool.not_false, reduceIte, pyAt0, pyAt1, pyAt2, pyAt3, List.getElem?_cons_zero, List.getElem?_cons_succ, u_isStr_non, u_isStr_bl, u_isStr_int, u_isStr_str, u_isStr_tup, u_isStr_lst, u_isStr_own, u_isTup_non, u_isTup_bl, u_isTup_int, u_isTup_str, u_isTup_tup, u_isTup_lst, u_isTup_own, u_isInt_non, u_isInt_bl, u_isInt_int, u_isInt_str, u_isInt_tup, u_isInt_lst, u_isInt_own, u_isBl_non, u_isBl_bl, u_isBl_int, u_isBl_str, u_isBl_tup, u_isBl_lst, u_isBl_own, u_isLst_non, u_isLst_bl, u_isLst_int, u_isLst_str, u_isLst_tup, u_isLst_lst, u_isLst_own, ok_non, ok_bl, ok_int, ok_str, ok_tup, ok_lst, ok_own, ok_ref, u_len_str, u_len_tup, u_len_lst, u_len_own, u_int_int, u_neg_int, u_tuple_tup, u_list_tup, u_tuple_lst, u_list_lst, u_tuple_own, u_list_own, u_rev_tup, u_rev_lst, b_add_int, b_sub_int, b_add_tup, b_add_str, b_add_lst, b_mul_int, b_mod_int, b_fdiv_int, b_eq, b_ne, b_lt_int, b_lt_str, b_le_int, b_le_str, b_gt_int, b_gt_str, b_ge_int, b_ge_str, b_in_tup, b_in_lst, b_nin_tup, b_in_str, b_nin_str, b_is_bl, b_isn_bl, b_ix_tup, b_ix_lst, b_ix_str, eqO_int, eqO_str, eqO_bl, it_tup, it_lst, it_str, intOf_int, zip_tup, zip_lst, rng1_int, rng2_int, cut_tup, cut_lst, set0, setS, bindT1, bindT2, bindP2, ok_pr, sq_lst, sq_own, sq_tup, idx_t, idx_l, idx_o, lam_pur, lam_err, try_pur, try_err, hdR_cons, raise_bnd, enu_tup, sets2, wipe1, wipe2, app_own, frz_own, lstK_lst, isStr_str, enu_lst, map_s, map_n, ofO_n, Bool.false_and]
    · simp only [ev_var, ev_lit, ev_con, ev_tup, ev_lst, ev_un, ev_bi, ev_ch, ev_not, ev_and, ev_or, ev_ite, ev_cut, ev_call, ev_cel, ev_at0, ev_meth, ev_dct, ev_get2, ev_idx, ev_lam, evL_nil, evL_cons, evO_nil, evO_val, evC_nil, evC_val, itr_val, itr_rng1, itr_rng2, itr_zip, ex_nil, ex_cons, ex_skip, ex_set, ex_own, ex_frz, ex_unp, ex_par, ex_app, ex_put, ex_bad, ex_rse, ex_rsf, ex_try, itr_enu, ex_ret, ex_drop, ex_ite, bnd_assoc, fit_non, fit_bl, fit_int, fit_str, fitL_nil, fitL_cons, eq_ii, eq_ss, eq_bb, List.any_cons, List.any_nil, Bool.or_false, Bool.and_self, Bool.and_true, Bool.true_and, slot0, slotS, ofO_some, some_bnd, pur_bnd, non_bnd, noE_pur, asBl_bl, bnd_ite, if_bl, if_true, if_false, Bool.false_eq_true, Bool.not_true, Bool.not_false, reduceIte, pyAt0, pyAt1, pyAt2, pyAt3, List.getElem?_cons_zero, List.getElem?_cons_succ, u_isStr_non, u_isStr_bl, u_isStr_int, u_isStr_str, u_isStr_tup, u_isStr_lst, u_isStr_own, u_isTup_non, u_isTup_bl, u_isTup_int, u_isTup_str, u_isTup_tup, u_isTup_lst, u_isTup_own, u_isInt_non, u_isInt_bl, u_isInt_int, u_isInt_str, u_isInt_tup, u_isInt_lst, u_isInt_own, u_isBl_non, u_isBl_bl, u_isBl_int, u_isBl_str, u_isBl_tup, u_isBl_lst, u_isBl_own, u_isLst_non, u_isLst_bl, u_isLst_int, u_isLst_str, u_isLst_tup, u_isLst_lst, u_isLst_own, ok_non, ok_bl, ok_int, ok_str, ok_tup, ok_lst, ok_own, ok_ref, u_len_str, u_len_tup, u_len_lst, u_len_own, u_int_int, u_neg_int, u_tuple_tup, u_list_tup, u_tuple_lst, u_list_lst, u_tuple_own, u_list_own, u_rev_tup, u_rev_lst, b_add_int, b_sub_int, b_add_tup, b_add_str, b_add_lst, b_mul_int, b_mod_int, b_fdiv_int, b_eq, b_ne, b_lt_int, b_lt_str, b_le_int, b_le_str, b_gt_int, b_gt_str, b_ge_int, b_ge_str, b_in_tup, b_in_lst, b_nin_tup, b_in_str, b_nin_str, b_is_bl, b_isn_bl, b_ix_tup, b_ix_lst, b_ix_str, eqO_int, eqO_str, eqO_bl, it_tup, it_lst, it_str, intOf_int, zip_tup, zip_lst, rng1_int, rng2_int, cut_tup, cut_lst, set0, setS, bindT1, bindT2, bindP2, ok_pr, sq_lst, sq_own, sq_tup, idx_t, idx_l, idx_o, lam_pur, lam_err, try_pur, try_err, hdR_cons, raise_bnd, enu_tup, sets2, wipe1, wipe2, app_own, frz_own, lstK_lst, isStr_str, enu_lst, map_s, map_n, ofO_n, beq4, hl, decide_false, way_not hl]
  | own l => cases n <;> cases hv
  | ref l => cases n <;> cases hv
  | pr a b => cases n <;> cases hv
  | _ => rfl
def isSetup : D → Bool
  | .tup [f, l, r, w] => areFields f && (isWay w && (isSide (items f) l && isSide (items f) r))
  | _ => false
theorem setup_tup {f l r w : D} : isSetup (.tup [f, l, r, w]) = (areFields f && (isWay w && (isSide (items f) l && isSide (items f) r))) := rfl
theorem setup_not {l : List D} (h : l.length ≠ 4) : isSetup (.tup l) = false := by
  match l, h with
  | [], _ => rfl
  | [_], _ => rfl
  | [_, _], _ => rfl
  | [_, _, _], _ => rfl
  | [_, _, _, _], h => exact absurd rfl h
  | _ :: _ :: _ :: _ :: _ :: _, _ => rfl
theorem fields_of {d : D} (h : areFields d = true) : ∃ fs, d = .tup fs ∧ fs.all isField = true := by
  cases d with
  | tup fs => exact ⟨fs, rfl, (band (band h).2).1⟩
  | _ => cases h
theorem r8 (k : Nat) {m n : Nat} (hn : n ≤ 60) (v : D) (hv : sm m n v = true) : F (k + 4) 8 [v] = pur (.bl (isSetup v)) := by
  rw [F, runF_at (fd := f8) rfl rfl]
  show bnd (exS _ _ b8 [some v]) _ = _
  unfold b8
  cases v with
  | tup l =>
    obtain ⟨n, rfl⟩ := sm_pos hv
    by_cases hl : l.length = 4
    · obtain ⟨f, a, b, w, rfl⟩ := len4 hl
      obtain ⟨hf, ha, hb, hw⟩ := sm4 hv
      have qf := r3 k f hf
      have qw := r7 (k + 1) (by omega) w hw
      simp only [ev_var, ev_lit, ev_con, ev_tup, ev_lst, ev_un, ev_bi, ev_ch, ev_not, ev_and, ev_or, ev_ite, ev_cut, ev_call, ev_cel, ev_at0, ev_meth, ev_dct, ev_get2, ev_idx, ev_lam, evL_nil, evL_cons, evO_nil, evO_val, evC_nil, evC_val, itr_val, itr_rng1, itr_rng2, itr_zip, ex_nil, ex_cons, ex_skip, ex_set, ex_own, ex_frz, ex_unp, ex_par, ex_app, ex_put, ex_bad, ex_rse, ex_rsf, ex_try, itr_enu, ex_ret, ex_drop, ex_ite, bnd_assoc, fit_non, fit_bl, fit_int, fit_str, fitL_nil, fitL_cons, eq_ii, eq_ss, eq_bb, List.any_cons, List.any_nil, Bool.or_false, Bool.and_self, Bool.and_true, Bool.true_and, slot0, slotS, ofO_some, some_bnd, pur_bnd, non_bnd, noE_pur, asBl_bl, bnd_ite, if_bl, if_true, if_false, Bool.false_eq_true, Bool.not_true, Bool.not_false, reduceIte, pyAt0, pyAt1, pyAt2, pyAt3, List.getElem?_cons_zero, List.getElem?_cons_succ, u_isStr_non, u_isStr_bl, u_isStr_int, u_isStr_str, u_isStr_tup, u_isStr_lst, u_isStr_own, u_isTup_non, u_isTup_bl, u_isTup_int, u_isTup_str, u_isTup_tup, u_isTup_lst, u_isTup_own, u_isInt_non, u_isInt_bl, u_isInt_int, u_isInt_str, u_isInt_tup, u_isInt_lst, u_isInt_own, u_isBl_non, u_isBl_bl, u_isBl_int, u_isBl_str, u_isBl_tup, u_isBl_lst, u_isBl_own, u_isLst_non, u_isLst_bl, u_isLst_int, u_isLst_str, u_isLst_tup, u_isLst_lst, u_isLst_own, ok_non, ok_bl, ok_int, ok_str, ok_tup, ok_lst, ok_own, ok_ref, u_len_str, u_len_tup, u_len_lst, u_len_own, u_int_int, u_neg_int, u_tuple_tup, u_list_tup, u_tuple_lst, u_list_lst, u_tuple_own, u_list_own, u_rev_tup, u_rev_lst, b_add_int, b_sub_int, b_add_tup, b_add_str, b_add_lst, b_mul_int, b_mod_int, b_fdiv_int, b_eq, b_ne, b_lt_int, b_lt_str, b_le_int, b_le_str, b_gt_int, b_gt_str, b_ge_int, b_ge_str, b_in_tup, b_in_lst, b_nin_tup, b_in_str, b_nin_str, b_is_bl, b_isn_bl, b_ix_tup, b_ix_lst, b_ix_str, eqO_int, eqO_str, eqO_bl, it_tup, it_lst, it_str, intOf_int, zip_tup, zip_lst, rng1_int, rng2_int, cut_tup, cut_lst, set0, setS, bindT1, bindT2, bindP2, ok_pr, sq_lst, sq_own, sq_tup, idx_t, idx_l, idx_o, lam_pur, lam_err, try_pur, try_err, hdR_cons, raise_bnd, enu_tup, sets2, wipe1, wipe2, app_own, frz_own, lstK_lst, isStr_str, enu_lst, map_s, map_n, ofO_n, len4', sm_ok hf, sm_ok ha, sm_ok hb, sm_ok hw, qf, qw, setup_tup, beq_self_eq_true]
      cases hF : areFields f with
      | false => simp only [ev_var, ev_lit, ev_con, ev_tup, ev_lst, ev_un, ev_bi, ev_ch, ev_not, ev_and, ev_or, ev_ite, ev_cut, ev_call, ev_cel, ev_at0, ev_meth, ev_dct, ev_get2, ev_idx, ev_lam, evL_nil, evL_cons, evO_nil, evO_val, evC_nil, evC_val, itr_val, itr_rng1, itr_rng2, itr_zip, ex_nil, ex_cons, ex_skip, ex_set, ex_own, ex_frz, ex_unp, ex_par, ex_app, ex_put, ex_bad, ex_rse, ex_rsf, ex_try, itr_enu, ex_ret, ex_drop, ex_ite, bnd_assoc, fit_non, fit_bl, fit_int, fit_str, fitL_nil, fitL_cons, eq_ii, eq_ss, eq_bb, List.any_cons, List.any_nil, Bool.or_false, Bool.and_self, Bool.and_true, Bool.true_and, slot0, slotS, ofO_some, some_bnd, pur_bnd, non_bnd, noE_pur, asBl_bl, bnd_ite, if_bl, if_true, if_false, Bool.false_eq_true, Bool.not_true, Bool.not_false, reduceIte, pyAt0, pyAt1, pyAt2, pyAt3, List.getElem?_cons_zero, List.getElem?_cons_succ, u_isStr_non, u_isStr_bl, u_isStr_int, u_isStr_str, u_isStr_tup, u_isStr_lst, u_isStr_own, u_isTup_non, u_isTup_bl, u_isTup_int, u_isTup_str, u_isTup_tup, u_isTup_lst, u_isTup_own, u_isInt_non, u_isInt_bl, u_isInt_int, u_isInt_str, u_isInt_tup, u_isInt_lst, u_isInt_own, u_isBl_non, u_isBl_bl, u_isBl_int, u_isBl_str, u_isBl_tup, u_isBl_lst, u_isBl_own, u_isLst_non, u_isLst_bl, u_isLst_int, u_isLst_str, u_isLst_tup, u_isLst_lst, u_isLst_own, ok_non, ok_bl, ok_int, ok_str, ok_tup, ok_lst, ok_own, ok_ref, u_len_str, u_len_tup, u_len_lst, u_len_own, u_int_int, u_neg_int, u_tuple_tup, u_list_tup, u_tuple_lst, u_list_lst, u_tuple_own, u_list_own, u_rev_tup, u_rev_lst, b_add_int, b_sub_int, b_add_tup, b_add_str, b_add_lst, b_mul_int, b_mod_int, b_fdiv_int, b_eq, b_ne, b_lt_int, b_lt_str, b_le_int, b_le_str, b_gt_int, b_gt_str, b_ge_int, b_ge_str, b_in_tup, b_in_lst, b_nin_tup, b_in_str, b_nin_str, b_is_bl, b_isn_bl, b_ix_tup, b_ix_lst, b_ix_str, eqO_int, eqO_str, eqO_bl, it_tup, it_lst, it_str, intOf_int, zip_tup, zip_lst, rng1_int, rng2_int, cut_tup, cut_lst, set0, setS, bindT1, bindT2, bindP2, ok_pr, sq_lst, sq_own, sq_tup, idx_t, idx_l, idx_o, lam_pur, lam_err, try_pur, try_err, hdR_cons, raise_bnd, enu_tup, sets2, wipe1, wipe2, app_own, frz_own, lstK_lst, isStr_str, enu_lst, map_s, map_n, ofO_n, Bool.false_and]
      | true =>
        cases isWay w with
        | false => simp only [ev_var, ev_lit, ev_con, ev_tup, ev_lst, ev_un, ev_bi, ev_ch, ev_not, ev_and, ev_or, ev_ite, ev_cut, ev_call, ev_cel, ev_at0, ev_meth, ev_dct, ev_get2, ev_idx, ev_lam, evL_nil, evL_cons, evO_nil, evO_val, evC_nil, evC_val, itr_val, itr_rng1, itr_rng2, itr_zip, ex_nil, ex_cons, ex_skip, ex_set, ex_own, ex_frz, ex_unp, ex_par, ex_app, ex_put, ex_bad, ex_rse, ex_rsf, ex_try, itr_enu, ex_ret, ex_drop, ex_ite, bnd_assoc, fit_non, fit_bl, fit_int, fit_str, fitL_nil, fitL_cons, eq_ii, eq_ss, eq_bb, List.any_cons, List.any_nil, Bool.or_false, Bool.and_self, Bool.and_true, Bool.true_and, slot0, slotS, ofO_some, some_bnd, pur_bnd, non_bnd, noE_pur, asBl_bl, bnd_ite, if_bl, if_true, if_false, Bool.false_eq_true, Bool.not_true, Bool.not_false, reduceIte, pyAt0, pyAt1, pyAt2, pyAt3, List.getElem?_cons_zero, List.getElem?_cons_succ, u_isStr_non, u_isStr_bl, u_isStr_int, u_isStr_str, u_isStr_tup, u_isStr_lst, u_isStr_own, u_isTup_non, u_isTup_bl, u_isTup_int, u_isTup_str, u_isTup_tup, u_isTup_lst, u_isTup_own, u_isInt_non, u_isInt_bl, u_isInt_int, u_isInt_str, u_isInt_tup, u_isInt_lst, u_isInt_own, u_isBl_non, u_isBl_bl, u_isBl_int, u_isBl_str, u_isBl_tup, u_isBl_lst, u_isBl_own, u_isLst_non, u_isLst_bl, u_isLst_int, u_isLst_str, u_isLst_tup, u_isLst_lst, u_isLst_own, ok_non, ok_bl, ok_int, ok_str, ok_tup, ok_lst, ok_own, ok_ref, u_len_str, u_len_tup, u_len_lst, u_len_own, u_int_int, u_neg_int, u_tuple_tup, u_list_tup, u_tuple_lst, u_list_lst, u_tuple_own, u_list_own, u_rev_tup, u_rev_lst, b_add_int, b_sub_int, b_add_tup, b_add_str, b_add_lst, b_mul_int, b_mod_int, b_fdiv_int, b_eq, b_ne, b_lt_int, b_lt_str, b_le_int, b_le_str, b_gt_int, b_gt_str, b_ge_int, b_ge_str, b_in_tup, b_in_lst, b_nin_tup, b_in_str, b_nin_str, b_is_bl, b_isn_bl, b_ix_tup, b_ix_lst, b_ix_str, eqO_int, eqO_str, eqO_bl, it_tup, it_lst, it_str, intOf_int, zip_tup, zip_lst, rng1_int, rng2_int, cut_tup, cut_lst, set0, setS, bindT1, bindT2, bindP2, ok_pr, sq_lst, sq_own, sq_tup, idx_t, idx_l, idx_o, lam_pur, lam_err, try_pur, try_err, hdR_cons, raise_bnd, enu_tup, sets2, wipe1, wipe2, app_own, frz_own, lstK_lst, isStr_str, enu_lst, map_s, map_n, ofO_n, Bool.false_and]
        | true =>
          obtain ⟨fs, rfl, hfs⟩ := fields_of hF
          have qa := r6 (k + 1) (by omega) fs a hfs ha
          have qb := r6 (k + 1) (by omega) fs b hfs hb
          simp only [ev_var, ev_lit, ev_con, ev_tup, ev_lst, ev_un, ev_bi, ev_ch, ev_not, ev_and, ev_or, ev_ite, ev_cut, ev_call, ev_cel, ev_at0, ev_meth, ev_dct, ev_get2, ev_idx, ev_lam, evL_nil, evL_cons, evO_nil, evO_val, evC_nil, evC_val, itr_val, itr_rng1, itr_rng2, itr_zip, ex_nil, ex_cons, ex_skip, ex_set, ex_own, ex_frz, ex_unp, ex_par, ex_app, ex_put, ex_bad, ex_rse, ex_rsf, ex_try, itr_enu, ex_ret, ex_drop, ex_ite, bnd_assoc, fit_non, fit_bl, fit_int, fit_str, fitL_nil, fitL_cons, eq_ii, eq_ss, eq_bb, List.any_cons, List.any_nil, Bool.or_false, Bool.and_self, Bool.and_true, Bool.true_and, slot0, slotS, ofO_some, some_bnd, pur_bnd, non_bnd, noE_pur, asBl_bl, bnd_ite, if_bl, if_true, if_false, Bool.false_eq_true, Bool.not_true, Bool.not_false, reduceIte, pyAt0, pyAt1, pyAt2, pyAt3, List.getElem?_cons_zero, List.getElem?_cons_succ, u_isStr_non, u_isStr_bl, u_isStr_int, u_isStr_str, u_isStr_tup, u_isStr_lst, u_isStr_own, u_isTup_non, u_isTup_bl, u_isTup_int, u_isTup_str, u_isTup_tup, u_isTup_lst, u_isTup_own, u_isInt_non, u_isInt_bl, u_isInt_int, u_isInt_str, u_isInt_tup, u_isInt_lst, u_isInt_own, u_isBl_non, u_isBl_bl, u_isBl_int, u_isBl_str, u_isBl_tup, u_isBl_lst, u_isBl_own, u_isLst_non, u_isLst_bl, u_isLst_int, u_isLst_str, u_isLst_tup, u_isLst_lst, u_isLst_own, ok_non, ok_bl, ok_int, ok_str, ok_tup, ok_lst, ok_own, ok_ref, u_len_str, u_len_tup, u_len_lst, u_len_own, u_int_int, u_neg_int, u_tuple_tup, u_list_tup, u_tuple_lst, u_list_lst, u_tuple_own, u_list_own, u_rev_tup, u_rev_lst, b_add_int, b_sub_int, b_add_tup, b_add_str, b_add_lst, b_mul_int, b_mod_int, b_fdiv_int, b_eq, b_ne, b_lt_int, b_lt_str, b_le_int, b_le_str, b_gt_int, b_gt_str, b_ge_int, b_ge_str, b_in_tup, b_in_lst, b_nin_tup, b_in_str, b_nin_str, b_is_bl, b_isn_bl, b_ix_tup, b_ix_lst, b_ix_str, eqO_int, eqO_str, eqO_bl, it_tup, it_lst, it_str, intOf_int, zip_tup, zip_lst, rng1_int, rng2_int, cut_tup, cut_lst, set0, setS, bindT1, bindT2, bindP2, ok_pr, sq_lst, sq_own, sq_tup, idx_t, idx_l, idx_o, lam_pur, lam_err, try_pur, try_err, hdR_cons, raise_bnd, enu_tup, sets2, wipe1, wipe2, app_own, frz_own, lstK_lst, isStr_str, enu_lst, map_s, map_n, ofO_n, qa, qb, items]
          cases isSide fs a <;> simp only [ev_var, ev_lit, ev_con, ev_tup, ev_lst, ev_un, ev_bi, ev_ch, ev_not, ev_and, ev_or, ev_ite, ev_cut, ev_call, ev_cel, ev_at0, ev_meth, ev_dct, ev_get2, ev_idx, ev_lam, evL_nil, evL_cons, evO_nil, evO_val, evC_nil, evC_val, itr_val, itr_rng1, itr_rng2, itr_zip, ex_nil, ex_cons, ex_skip, ex_set, ex_own, ex_frz, ex_unp, ex_par, ex_app, ex_put, ex_bad, ex_rse, ex_rsf, ex_try, itr_enu, ex_ret, ex_drop, ex_ite, bnd_assoc, fit_non, fit_bl, fit_int, fit_str, fitL_nil, fitL_cons, eq_ii, eq_ss, eq_bb, List.any_cons, List.any_nil, Bool.or_false, Bool.and_self, Bool.and_true, Bool.true_and, slot0, slotS, ofO_some, some_bnd, pur_bnd, non_bnd, noE_pur, asBl_bl, bnd_ite, if_bl, if_true, if_false, Bool.false_eq_true, Bool.not_true, Bool.not_false, reduceIte, pyAt0, pyAt1, pyAt2, pyAt3, List.getElem?_cons_zero, List.getElem?_cons_succ, u_isStr_non, u_isStr_bl, u_isStr_int, u_isStr_str, u_isStr_tup, u_isStr_lst, u_isStr_own, u_isTup_non, u_isTup_bl, u_isTup_int, u_isTup_str, u_isTup_tup, u_isTup_lst, u_isTup_own, u_isInt_non, u_isInt_bl, u_isInt_int, u_isInt_str, u_isInt_tup, u_isInt_lst, u_isInt_own, u_isBl_non, u_isBl_bl, u_isBl_int, u_isBl_str, u_isBl_tup, u_isBl_lst, u_isBl_own, u_isLst_non, u_isLst_bl, u_isLst_int, u_isLst_str, u_isLst_tup, u_isLst_lst, u_isLst_own, ok_non, ok_bl, ok_int, ok_str, ok_tup, ok_lst, ok_own, ok_ref, u_len_str, u_len_tup, u_len_lst, u_len_own, u_int_int, u_neg_int, u_tuple_tup, u_list_tup, u_tuple_lst, u_list_lst, u_tuple_own, u_list_own, u_rev_tup, u_rev_lst, b_add_int, b_sub_int, b_add_tup, b_add_str, b_add_lst, b_mul_int, b_mod_int, b_fdiv_int, b_eq, b_ne, b_lt_int, b_lt_str, b_le_int, b_le_str, b_gt_int, b_gt_str, b_ge_int, b_ge_str, b_in_tup, b_in_lst, b_nin_tup, b_in_str, b_nin_str, b_is_bl, b_isn_bl, b_ix_tup, b_ix_lst, b_ix_str, eqO_int, eqO_str, eqO_bl, it_tup, it_lst, it_str, intOf_int, zip_tup, zip_lst, rng1_int, rng2_int, cut_tup, cut_lst, set0, setS, bindT1, bindT2, bindP2, ok_pr, sq_lst, sq_own, sq_tup, idx_t, idx_l, idx_o, lam_pur, lam_err, try_pur, try_err, hdR_cons, raise_bnd, enu_tup, sets2, wipe1, wipe2, app_own, frz_own, lstK_lst, isStr_str, enu_lst, map_s, map_n, ofO_n, Bool.false_and]
    · simp only [ev_var, ev_lit, ev_con, ev_tup, ev_lst, ev_un, ev_bi, ev_ch, ev_not, ev_and, ev_or, ev_ite, ev_cut, ev_call, ev_cel, ev_at0, ev_meth, ev_dct, ev_get2, ev_idx, ev_lam, evL_nil, evL_cons, evO_nil, evO_val, evC_nil, evC_val, itr_val, itr_rng1, itr_rng2, itr_zip, ex_nil, ex_cons, ex_skip, ex_set, ex_own, ex_frz, ex_unp, ex_par, ex_app, ex_put, ex_bad, ex_rse, ex_rsf, ex_try, itr_enu, ex_ret, ex_drop, ex_ite, bnd_assoc, fit_non, fit_bl, fit_int, fit_str, fitL_nil, fitL_cons, eq_ii, eq_ss, eq_bb, List.any_cons, List.any_nil, Bool.or_false, Bool.and_self, Bool.and_true, Bool.true_and, slot0, slotS, ofO_some, some_bnd, pur_bnd, non_bnd, noE_pur, asBl_bl, bnd_ite, if_bl, if_true, if_false, Bool.false_eq_true, Bool.not_true, Bool.not_false, reduceIte, pyAt0, pyAt1, pyAt2, pyAt3, List.getElem?_cons_zero, List.getElem?_cons_succ, u_isStr_non, u_isStr_bl, u_isStr_int, u_isStr_str, u_isStr_tup, u_isStr_lst, u_isStr_own, u_isTup_non, u_isTup_bl, u_isTup_int, u_isTup_str, u_isTup_tup, u_isTup_lst, u_isTup_own, u_isInt_non, u_isInt_bl, u_isInt_int, u_isInt_str, u_isInt_tup, u_isInt_lst, u_isInt_own, u_isBl_non, u_isBl_bl, u_isBl_int, u_isBl_str, u_isBl_tup, u_isBl_lst, u_isBl_own, u_isLst_non, u_isLst_bl, u_isLst_int, u_isLst_str, u_isLst_tup, u_isLst_lst, u_isLst_own, ok_non, ok_bl, ok_int, ok_str, ok_tup, ok_lst, ok_own, ok_ref, u_len_str, u_len_tup, u_len_lst, u_len_own, u_int_int, u_neg_int, u_tuple_tup, u_list_tup, u_tuple_lst, u_list_lst, u_tuple_own, u_list_own, u_rev_tup, u_rev_lst, b_add_int, b_sub_int, b_add_tup, b_add_str, b_add_lst, b_mul_int, b_mod_int, b_fdiv_int, b_eq, b_ne, b_lt_int, b_lt_str, b_le_int, b_le_str, b_gt_int, b_gt_str, b_ge_int, b_ge_str, b_in_tup, b_in_lst, b_nin_tup, b_in_str, b_nin_str, b_is_bl, b_isn_bl, b_ix_tup, b_ix_lst, b_ix_str, eqO_int, eqO_str, eqO_bl, it_tup, it_lst, it_str, intOf_int, zip_tup, zip_lst, rng1_int, rng2_int, cut_tup, cut_lst, set0, setS, bindT1, bindT2, bindP2, ok_pr, sq_lst, sq_own, sq_tup, idx_t, idx_l, idx_o, lam_pur, lam_err, try_pur, try_err, hdR_cons, raise_bnd, enu_tup, sets2, wipe1, wipe2, app_own, frz_own, lstK_lst, isStr_str, enu_lst, map_s, map_n, ofO_n, beq4, hl, decide_false, setup_not hl]
  | own l => cases n <;> cases hv
  | ref l => cases n <;> cases hv
  | pr a b => cases n <;> cases hv
  | _ => rfl
theorem sm_lits {m n : Nat} (hm : 3 ≤ m) : sm m (n + 1) (.tup tells) = true ∧ sm m (n + 1) (.tup answers) = true := by
  refine ⟨sm_tup.mpr ⟨?_, ?_⟩, sm_tup.mpr ⟨?_, ?_⟩⟩
  · show 2 ≤ m; omega
  · intro d hd; rcases List.mem_cons.mp hd with rfl | hd
    · cases n <;> rfl
    · rcases List.mem_cons.mp hd with rfl | hd
      · cases n <;> rfl
      · cases hd
  · show 3 ≤ m; omega
  · intro d hd; rcases List.mem_cons.mp hd with rfl | hd
    · cases n <;> rfl
    · rcases List.mem_cons.mp hd with rfl | hd
      · cases n <;> rfl
      · rcases List.mem_cons.mp hd with rfl | hd
        · cases n <;> rfl
        · cases hd
theorem wp_at {s : Store} {c : Nat} {l : List D} {i : Int} {d : D} {Q : D → Store → Prop} (hs : s[c]? = some (.lst l)) (h : pyAt l i = some d) : wp (atOf (.ref c) (.int i)) Q s ↔ Q d s := by
  unfold wp atOf
  simp only [hs, h]
theorem wp_put {s : Store} {c m : Nat} {l : List D} {i : Int} {y : D} {Q : Unit → Store → Prop} (hs : s[c]? = some (.lst l)) (h : pyIx l.length i = some m) : wp (putOf (.ref c) (.int i) y) Q s ↔ Q () (s.set c (.lst (l.set m y))) := by
  unfold wp putOf
  simp only [hs, h]
theorem set_at {s : Store} {c : Nat} {x y : Cell} (h : s[c]? = some x) : (s.set c y)[c]? = some y := by
  have hc := (List.getElem?_eq_some_iff.mp h).1
  rw [List.getElem?_set_self hc]
def Hd (c : Nat) (s : Store) : Prop := ∃ a b : Int, s[c]? = some (.lst [.int a, .int b]) ∧ 0 ≤ a ∧ 0 ≤ b ∧ b < 4294967291
theorem mod_int {i j : Int} (h : 0 < j) : bop .mod (.int i) (.int j) = some (.int (i % j)) := by
  show (if 0 < j then _ else _) = _
  rw [if_pos h]
theorem fdiv_int {i j : Int} (h : 0 < j) (h2 : j < 1073741824) : bop .fdiv (.int i) (.int j) = some (.int (i / j)) := by
  show (if 0 < j ∧ j < 1073741824 then _ else _) = _
  rw [if_pos ⟨h, h2⟩]
theorem r10 (k : Nat) {c : Nat} {m : Int} {s : Store} {Q : D → Store → Prop} (hs : Hd c s) (h0 : 0 < m) (h1 : m < 1073741824) (hq : ∀ r s', 0 ≤ r → r < m → Hd c s' → Q (.int r) s') : wp (F (k + 1) 20 [.ref c, .int m]) Q s := by
  obtain ⟨a, b, e, ha, hb, hb2⟩ := hs
  rw [F, runF_at (fd := f20) rfl rfl]
  show wp (bnd (exS _ _ b20 [some (.ref c), some (.int m), none]) _) Q s
  unfold b20
  simp only [ev_var, ev_lit, ev_con, ev_tup, ev_lst, ev_un, ev_bi, ev_ch, ev_not, ev_and, ev_or, ev_ite, ev_cut, ev_call, ev_cel, ev_at0, ev_meth, ev_dct, ev_get2, ev_idx, ev_lam, evL_nil, evL_cons, evO_nil, evO_val, evC_nil, evC_val, itr_val, itr_rng1, itr_rng2, itr_zip, ex_nil, ex_cons, ex_skip, ex_set, ex_own, ex_frz, ex_unp, ex_par, ex_app, ex_put, ex_bad, ex_rse, ex_rsf, ex_try, itr_enu, ex_ret, ex_drop, ex_ite, bnd_assoc, fit_non, fit_bl, fit_int, fit_str, fitL_nil, fitL_cons, eq_ii, eq_ss, eq_bb, List.any_cons, List.any_nil, Bool.or_false, Bool.and_self, Bool.and_true, Bool.true_and, slot0, slotS, ofO_some, some_bnd, pur_bnd, non_bnd, noE_pur, asBl_bl, bnd_ite, if_bl, if_true, if_false, Bool.false_eq_true, Bool.not_true, Bool.not_false, reduceIte, pyAt0, pyAt1, pyAt2, pyAt3, List.getElem?_cons_zero, List.getElem?_cons_succ, u_isStr_non, u_isStr_bl, u_isStr_int, u_isStr_str, u_isStr_tup, u_isStr_lst, u_isStr_own, u_isTup_non, u_isTup_bl, u_isTup_int, u_isTup_str, u_isTup_tup, u_isTup_lst, u_isTup_own, u_isInt_non, u_isInt_bl, u_isInt_int, u_isInt_str, u_isInt_tup, u_isInt_lst, u_isInt_own, u_isBl_non, u_isBl_bl, u_isBl_int, u_isBl_str, u_isBl_tup, u_isBl_lst, u_isBl_own, u_isLst_non, u_isLst_bl, u_isLst_int, u_isLst_str, u_isLst_tup, u_isLst_lst, u_isLst_own, ok_non, ok_bl, ok_int, ok_str, ok_tup, ok_lst, ok_own, ok_ref, u_len_str, u_len_tup, u_len_lst, u_len_own, u_int_int, u_neg_int, u_tuple_tup, u_list_tup, u_tuple_lst, u_list_lst, u_tuple_own, u_list_own, u_rev_tup, u_rev_lst, b_add_int, b_sub_int, b_add_tup, b_add_str, b_add_lst, b_mul_int, b_mod_int, b_fdiv_int, b_eq, b_ne, b_lt_int, b_lt_str, b_le_int, b_le_str, b_gt_int, b_gt_str, b_ge_int, b_ge_str, b_in_tup, b_in_lst, b_nin_tup, b_in_str, b_nin_str, b_is_bl, b_isn_bl, b_ix_tup, b_ix_lst, b_ix_str, eqO_int, eqO_str, eqO_bl, it_tup, it_lst, it_str, intOf_int, zip_tup, zip_lst, rng1_int, rng2_int, cut_tup, cut_lst, set0, setS, bindT1, bindT2, bindP2, ok_pr, sq_lst, sq_own, sq_tup, idx_t, idx_l, idx_o, lam_pur, lam_err, try_pur, try_err, hdR_cons, raise_bnd, enu_tup, sets2, wipe1, wipe2, app_own, frz_own, lstK_lst, isStr_str, enu_lst, map_s, map_n, ofO_n]
  rw [wp_bnd, wp_at e rfl]
  simp only [ev_var, ev_lit, ev_con, ev_tup, ev_lst, ev_un, ev_bi, ev_ch, ev_not, ev_and, ev_or, ev_ite, ev_cut, ev_call, ev_cel, ev_at0, ev_meth, ev_dct, ev_get2, ev_idx, ev_lam, evL_nil, evL_cons, evO_nil, evO_val, evC_nil, evC_val, itr_val, itr_rng1, itr_rng2, itr_zip, ex_nil, ex_cons, ex_skip, ex_set, ex_own, ex_frz, ex_unp, ex_par, ex_app, ex_put, ex_bad, ex_rse, ex_rsf, ex_try, itr_enu, ex_ret, ex_drop, ex_ite, bnd_assoc, fit_non, fit_bl, fit_int, fit_str, fitL_nil, fitL_cons, eq_ii, eq_ss, eq_bb, List.any_cons, List.any_nil, Bool.or_false, Bool.and_self, Bool.and_true, Bool.true_and, slot0, slotS, ofO_some, some_bnd, pur_bnd, non_bnd, noE_pur, asBl_bl, bnd_ite, if_bl, if_true, if_false, Bool.false_eq_true, Bool.not_true, Bool.not_false, reduceIte, pyAt0, pyAt1, pyAt2, pyAt3, List.getElem?_cons_zero, List.getElem?_cons_succ, u_isStr_non, u_isStr_bl, u_isStr_int, u_isStr_str, u_isStr_tup, u_isStr_lst, u_isStr_own, u_isTup_non, u_isTup_bl, u_isTup_int, u_isTup_str, u_isTup_tup, u_isTup_lst, u_isTup_own, u_isInt_non, u_isInt_bl, u_isInt_int, u_isInt_str, u_isInt_tup, u_isInt_lst, u_isInt_own, u_isBl_non, u_isBl_bl, u_isBl_int, u_isBl_str, u_isBl_tup, u_isBl_lst, u_isBl_own, u_isLst_non, u_isLst_bl, u_isLst_int, u_isLst_str, u_isLst_tup, u_isLst_lst, u_isLst_own, ok_non, ok_bl, ok_int, ok_str, ok_tup, ok_lst, ok_own, ok_ref, u_len_str, u_len_tup, u_len_lst, u_len_own, u_int_int, u_neg_int, u_tuple_tup, u_list_tup, u_tuple_lst, u_list_lst, u_tuple_own, u_list_own, u_rev_tup, u_rev_lst, b_add_int, b_sub_int, b_add_tup, b_add_str, b_add_lst, b_mul_int, b_mod_int, b_fdiv_int, b_eq, b_ne, b_lt_int, b_lt_str, b_le_int, b_le_str, b_gt_int, b_gt_str, b_ge_int, b_ge_str, b_in_tup, b_in_lst, b_nin_tup, b_in_str, b_nin_str, b_is_bl, b_isn_bl, b_ix_tup, b_ix_lst, b_ix_str, eqO_int, eqO_str, eqO_bl, it_tup, it_lst, it_str, intOf_int, zip_tup, zip_lst, rng1_int, rng2_int, cut_tup, cut_lst, set0, setS, bindT1, bindT2, bindP2, ok_pr, sq_lst, sq_own, sq_tup, idx_t, idx_l, idx_o, lam_pur, lam_err, try_pur, try_err, hdR_cons, raise_bnd, enu_tup, sets2, wipe1, wipe2, app_own, frz_own, lstK_lst, isStr_str, enu_lst, map_s, map_n, ofO_n]
  by_cases hp : 0 < a
  · simp only [hp, decide_true, ev_var, ev_lit, ev_con, ev_tup, ev_lst, ev_un, ev_bi, ev_ch, ev_not, ev_and, ev_or, ev_ite, ev_cut, ev_call, ev_cel, ev_at0, ev_meth, ev_dct, ev_get2, ev_idx, ev_lam, evL_nil, evL_cons, evO_nil, evO_val, evC_nil, evC_val, itr_val, itr_rng1, itr_rng2, itr_zip, ex_nil, ex_cons, ex_skip, ex_set, ex_own, ex_frz, ex_unp, ex_par, ex_app, ex_put, ex_bad, ex_rse, ex_rsf, ex_try, itr_enu, ex_ret, ex_drop, ex_ite, bnd_assoc, fit_non, fit_bl, fit_int, fit_str, fitL_nil, fitL_cons, eq_ii, eq_ss, eq_bb, List.any_cons, List.any_nil, Bool.or_false, Bool.and_self, Bool.and_true, Bool.true_and, slot0, slotS, ofO_some, some_bnd, pur_bnd, non_bnd, noE_pur, asBl_bl, bnd_ite, if_bl, if_true, if_false, Bool.false_eq_true, Bool.not_true, Bool.not_false, reduceIte, pyAt0, pyAt1, pyAt2, pyAt3, List.getElem?_cons_zero, List.getElem?_cons_succ, u_isStr_non, u_isStr_bl, u_isStr_int, u_isStr_str, u_isStr_tup, u_isStr_lst, u_isStr_own, u_isTup_non, u_isTup_bl, u_isTup_int, u_isTup_str, u_isTup_tup, u_isTup_lst, u_isTup_own, u_isInt_non, u_isInt_bl, u_isInt_int, u_isInt_str, u_isInt_tup, u_isInt_lst, u_isInt_own, u_isBl_non, u_isBl_bl, u_isBl_int, u_isBl_str, u_isBl_tup, u_isBl_lst, u_isBl_own, u_isLst_non, u_isLst_bl, u_isLst_int, u_isLst_str, u_isLst_tup, u_isLst_lst, u_isLst_own, ok_non, ok_bl, ok_int, ok_str, ok_tup, ok_lst, ok_own, ok_ref, u_len_str, u_len_tup, u_len_lst, u_len_own, u_int_int, u_neg_int, u_tuple_tup, u_list_tup, u_tuple_lst, u_list_lst, u_tuple_own, u_list_own, u_rev_tup, u_rev_lst, b_add_int, b_sub_int, b_add_tup, b_add_str, b_add_lst, b_mul_int, b_mod_int, b_fdiv_int, b_eq, b_ne, b_lt_int, b_lt_str, b_le_int, b_le_str, b_gt_int, b_gt_str, b_ge_int, b_ge_str, b_in_tup, b_in_lst, b_nin_tup, b_in_str, b_nin_str, b_is_bl, b_isn_bl, b_ix_tup, b_ix_lst, b_ix_str, eqO_int, eqO_str, eqO_bl, it_tup, it_lst, it_str, intOf_int, zip_tup, zip_lst, rng1_int, rng2_int, cut_tup, cut_lst, set0, setS, bindT1, bindT2, bindP2, ok_pr, sq_lst, sq_own, sq_tup, idx_t, idx_l, idx_o, lam_pur, lam_err, try_pur, try_err, hdR_cons, raise_bnd, enu_tup, sets2, wipe1, wipe2, app_own, frz_own, lstK_lst, isStr_str, enu_lst, map_s, map_n, ofO_n]
    rw [wp_bnd, wp_at e rfl]
    simp only [u_int_int, ofO_some, pur_bnd, mod_int h0, bnd_assoc, ev_var, ev_lit, ev_con, ev_tup, ev_lst, ev_un, ev_bi, ev_ch, ev_not, ev_and, ev_or, ev_ite, ev_cut, ev_call, ev_cel, ev_at0, ev_meth, ev_dct, ev_get2, ev_idx, ev_lam, evL_nil, evL_cons, evO_nil, evO_val, evC_nil, evC_val, itr_val, itr_rng1, itr_rng2, itr_zip, ex_nil, ex_cons, ex_skip, ex_set, ex_own, ex_frz, ex_unp, ex_par, ex_app, ex_put, ex_bad, ex_rse, ex_rsf, ex_try, itr_enu, ex_ret, ex_drop, ex_ite, bnd_assoc, fit_non, fit_bl, fit_int, fit_str, fitL_nil, fitL_cons, eq_ii, eq_ss, eq_bb, List.any_cons, List.any_nil, Bool.or_false, Bool.and_self, Bool.and_true, Bool.true_and, slot0, slotS, ofO_some, some_bnd, pur_bnd, non_bnd, noE_pur, asBl_bl, bnd_ite, if_bl, if_true, if_false, Bool.false_eq_true, Bool.not_true, Bool.not_false, reduceIte, pyAt0, pyAt1, pyAt2, pyAt3, List.getElem?_cons_zero, List.getElem?_cons_succ, u_isStr_non, u_isStr_bl, u_isStr_int, u_isStr_str, u_isStr_tup, u_isStr_lst, u_isStr_own, u_isTup_non, u_isTup_bl, u_isTup_int, u_isTup_str, u_isTup_tup, u_isTup_lst, u_isTup_own, u_isInt_non, u_isInt_bl, u_isInt_int, u_isInt_str, u_isInt_tup, u_isInt_lst, u_isInt_own, u_isBl_non, u_isBl_bl, u_isBl_int, u_isBl_str, u_isBl_tup, u_isBl_lst, u_isBl_own, u_isLst_non, u_isLst_bl, u_isLst_int, u_isLst_str, u_isLst_tup, u_isLst_lst, u_isLst_own, ok_non, ok_bl, ok_int, ok_str, ok_tup, ok_lst, ok_own, ok_ref, u_len_str, u_len_tup, u_len_lst, u_len_own, u_int_int, u_neg_int, u_tuple_tup, u_list_tup, u_tuple_lst, u_list_lst, u_tuple_own, u_list_own, u_rev_tup, u_rev_lst, b_add_int, b_sub_int, b_add_tup, b_add_str, b_add_lst, b_mul_int, b_mod_int, b_fdiv_int, b_eq, b_ne, b_lt_int, b_lt_str, b_le_int, b_le_str, b_gt_int, b_gt_str, b_ge_int, b_ge_str, b_in_tup, b_in_lst, b_nin_tup, b_in_str, b_nin_str, b_is_bl, b_isn_bl, b_ix_tup, b_ix_lst, b_ix_str, eqO_int, eqO_str, eqO_bl, it_tup, it_lst, it_str, intOf_int, zip_tup, zip_lst, rng1_int, rng2_int, cut_tup, cut_lst, set0, setS, bindT1, bindT2, bindP2, ok_pr, sq_lst, sq_own, sq_tup, idx_t, idx_l, idx_o, lam_pur, lam_err, try_pur, try_err, hdR_cons, raise_bnd, enu_tup, sets2, wipe1, wipe2, app_own, frz_own, lstK_lst, isStr_str, enu_lst, map_s, map_n, ofO_n]
    rw [wp_bnd, wp_at e rfl]
    simp only [ofO_some, pur_bnd, fdiv_int h0 h1, bnd_assoc, ev_var, ev_lit, ev_con, ev_tup, ev_lst, ev_un, ev_bi, ev_ch, ev_not, ev_and, ev_or, ev_ite, ev_cut, ev_call, ev_cel, ev_at0, ev_meth, ev_dct, ev_get2, ev_idx, ev_lam, evL_nil, evL_cons, evO_nil, evO_val, evC_nil, evC_val, itr_val, itr_rng1, itr_rng2, itr_zip, ex_nil, ex_cons, ex_skip, ex_set, ex_own, ex_frz, ex_unp, ex_par, ex_app, ex_put, ex_bad, ex_rse, ex_rsf, ex_try, itr_enu, ex_ret, ex_drop, ex_ite, bnd_assoc, fit_non, fit_bl, fit_int, fit_str, fitL_nil, fitL_cons, eq_ii, eq_ss, eq_bb, List.any_cons, List.any_nil, Bool.or_false, Bool.and_self, Bool.and_true, Bool.true_and, slot0, slotS, ofO_some, some_bnd, pur_bnd, non_bnd, noE_pur, asBl_bl, bnd_ite, if_bl, if_true, if_false, Bool.false_eq_true, Bool.not_true, Bool.not_false, reduceIte, pyAt0, pyAt1, pyAt2, pyAt3, List.getElem?_cons_zero, List.getElem?_cons_succ, u_isStr_non, u_isStr_bl, u_isStr_int, u_isStr_str, u_isStr_tup, u_isStr_lst, u_isStr_own, u_isTup_non, u_isTup_bl, u_isTup_int, u_isTup_str, u_isTup_tup, u_isTup_lst, u_isTup_own, u_isInt_non, u_isInt_bl, u_isInt_int, u_isInt_str, u_isInt_tup, u_isInt_lst, u_isInt_own, u_isBl_non, u_isBl_bl, u_isBl_int, u_isBl_str, u_isBl_tup, u_isBl_lst, u_isBl_own, u_isLst_non, u_isLst_bl, u_isLst_int, u_isLst_str, u_isLst_tup, u_isLst_lst, u_isLst_own, ok_non, ok_bl, ok_int, ok_str, ok_tup, ok_lst, ok_own, ok_ref, u_len_str, u_len_tup, u_len_lst, u_len_own, u_int_int, u_neg_int, u_tuple_tup, u_list_tup, u_tuple_lst, u_list_lst, u_tuple_own, u_list_own, u_rev_tup, u_rev_lst, b_add_int, b_sub_int, b_add_tup, b_add_str, b_add_lst, b_mul_int, b_mod_int, b_fdiv_int, b_eq, b_ne, b_lt_int, b_lt_str, b_le_int, b_le_str, b_gt_int, b_gt_str, b_ge_int, b_ge_str, b_in_tup, b_in_lst, b_nin_tup, b_in_str, b_nin_str, b_is_bl, b_isn_bl, b_ix_tup, b_ix_lst, b_ix_str, eqO_int, eqO_str, eqO_bl, it_tup, it_lst, it_str, intOf_int, zip_tup, zip_lst, rng1_int, rng2_int, cut_tup, cut_lst, set0, setS, bindT1, bindT2, bindP2, ok_pr, sq_lst, sq_own, sq_tup, idx_t, idx_l, idx_o, lam_pur, lam_err, try_pur, try_err, hdR_cons, raise_bnd, enu_tup, sets2, wipe1, wipe2, app_own, frz_own, lstK_lst, isStr_str, enu_lst, map_s, map_n, ofO_n]
    rw [wp_bnd, wp_put (m := 0) e rfl]
    exact hq _ _ (Int.emod_nonneg _ (by omega)) (Int.emod_lt_of_pos _ h0) ⟨a / m, b, by rw [set_at e]; rfl, Int.ediv_nonneg ha (by omega), hb, hb2⟩
  · simp only [hp, decide_false, ev_var, ev_lit, ev_con, ev_tup, ev_lst, ev_un, ev_bi, ev_ch, ev_not, ev_and, ev_or, ev_ite, ev_cut, ev_call, ev_cel, ev_at0, ev_meth, ev_dct, ev_get2, ev_idx, ev_lam, evL_nil, evL_cons, evO_nil, evO_val, evC_nil, evC_val, itr_val, itr_rng1, itr_rng2, itr_zip, ex_nil, ex_cons, ex_skip, ex_set, ex_own, ex_frz, ex_unp, ex_par, ex_app, ex_put, ex_bad, ex_rse, ex_rsf, ex_try, itr_enu, ex_ret, ex_drop, ex_ite, bnd_assoc, fit_non, fit_bl, fit_int, fit_str, fitL_nil, fitL_cons, eq_ii, eq_ss, eq_bb, List.any_cons, List.any_nil, Bool.or_false, Bool.and_self, Bool.and_true, Bool.true_and, slot0, slotS, ofO_some, some_bnd, pur_bnd, non_bnd, noE_pur, asBl_bl, bnd_ite, if_bl, if_true, if_false, Bool.false_eq_true, Bool.not_true, Bool.not_false, reduceIte, pyAt0, pyAt1, pyAt2, pyAt3, List.getElem?_cons_zero, List.getElem?_cons_succ, u_isStr_non, u_isStr_bl, u_isStr_int, u_isStr_str, u_isStr_tup, u_isStr_lst, u_isStr_own, u_isTup_non, u_isTup_bl, u_isTup_int, u_isTup_str, u_isTup_tup, u_isTup_lst, u_isTup_own, u_isInt_non, u_isInt_bl, u_isInt_int, u_isInt_str, u_isInt_tup, u_isInt_lst, u_isInt_own, u_isBl_non, u_isBl_bl, u_isBl_int, u_isBl_str, u_isBl_tup, u_isBl_lst, u_isBl_own, u_isLst_non, u_isLst_bl, u_isLst_int, u_isLst_str, u_isLst_tup, u_isLst_lst, u_isLst_own, ok_non, ok_bl, ok_int, ok_str, ok_tup, ok_lst, ok_own, ok_ref, u_len_str, u_len_tup, u_len_lst, u_len_own, u_int_int, u_neg_int, u_tuple_tup, u_list_tup, u_tuple_lst, u_list_lst, u_tuple_own, u_list_own, u_rev_tup, u_rev_lst, b_add_int, b_sub_int, b_add_tup, b_add_str, b_add_lst, b_mul_int, b_mod_int, b_fdiv_int, b_eq, b_ne, b_lt_int, b_lt_str, b_le_int, b_le_str, b_gt_int, b_gt_str, b_ge_int, b_ge_str, b_in_tup, b_in_lst, b_nin_tup, b_in_str, b_nin_str, b_is_bl, b_isn_bl, b_ix_tup, b_ix_lst, b_ix_str, eqO_int, eqO_str, eqO_bl, it_tup, it_lst, it_str, intOf_int, zip_tup, zip_lst, rng1_int, rng2_int, cut_tup, cut_lst, set0, setS, bindT1, bindT2, bindP2, ok_pr, sq_lst, sq_own, sq_tup, idx_t, idx_l, idx_o, lam_pur, lam_err, try_pur, try_err, hdR_cons, raise_bnd, enu_tup, sets2, wipe1, wipe2, app_own, frz_own, lstK_lst, isStr_str, enu_lst, map_s, map_n, ofO_n]
    rw [wp_bnd, wp_at e rfl]
    have hm : ((-big < b ∧ b < big) ∨ (-big < (69069 : Int) ∧ (69069 : Int) < big)) = True := eq_true (.inr (by decide))
    have hk : (0 : Int) < 4294967291 := by omega
    have hk2 : (0 : Int) < 4294967279 := by omega
    have hk3 : (0 : Int) < 4099 ∧ (4099 : Int) < 1073741824 := by omega
    simp only [hm, hk, ev_var, ev_lit, ev_con, ev_tup, ev_lst, ev_un, ev_bi, ev_ch, ev_not, ev_and, ev_or, ev_ite, ev_cut, ev_call, ev_cel, ev_at0, ev_meth, ev_dct, ev_get2, ev_idx, ev_lam, evL_nil, evL_cons, evO_nil, evO_val, evC_nil, evC_val, itr_val, itr_rng1, itr_rng2, itr_zip, ex_nil, ex_cons, ex_skip, ex_set, ex_own, ex_frz, ex_unp, ex_par, ex_app, ex_put, ex_bad, ex_rse, ex_rsf, ex_try, itr_enu, ex_ret, ex_drop, ex_ite, bnd_assoc, fit_non, fit_bl, fit_int, fit_str, fitL_nil, fitL_cons, eq_ii, eq_ss, eq_bb, List.any_cons, List.any_nil, Bool.or_false, Bool.and_self, Bool.and_true, Bool.true_and, slot0, slotS, ofO_some, some_bnd, pur_bnd, non_bnd, noE_pur, asBl_bl, bnd_ite, if_bl, if_true, if_false, Bool.false_eq_true, Bool.not_true, Bool.not_false, reduceIte, pyAt0, pyAt1, pyAt2, pyAt3, List.getElem?_cons_zero, List.getElem?_cons_succ, u_isStr_non, u_isStr_bl, u_isStr_int, u_isStr_str, u_isStr_tup, u_isStr_lst, u_isStr_own, u_isTup_non, u_isTup_bl, u_isTup_int, u_isTup_str, u_isTup_tup, u_isTup_lst, u_isTup_own, u_isInt_non, u_isInt_bl, u_isInt_int, u_isInt_str, u_isInt_tup, u_isInt_lst, u_isInt_own, u_isBl_non, u_isBl_bl, u_isBl_int, u_isBl_str, u_isBl_tup, u_isBl_lst, u_isBl_own, u_isLst_non, u_isLst_bl, u_isLst_int, u_isLst_str, u_isLst_tup, u_isLst_lst, u_isLst_own, ok_non, ok_bl, ok_int, ok_str, ok_tup, ok_lst, ok_own, ok_ref, u_len_str, u_len_tup, u_len_lst, u_len_own, u_int_int, u_neg_int, u_tuple_tup, u_list_tup, u_tuple_lst, u_list_lst, u_tuple_own, u_list_own, u_rev_tup, u_rev_lst, b_add_int, b_sub_int, b_add_tup, b_add_str, b_add_lst, b_mul_int, b_mod_int, b_fdiv_int, b_eq, b_ne, b_lt_int, b_lt_str, b_le_int, b_le_str, b_gt_int, b_gt_str, b_ge_int, b_ge_str, b_in_tup, b_in_lst, b_nin_tup, b_in_str, b_nin_str, b_is_bl, b_isn_bl, b_ix_tup, b_ix_lst, b_ix_str, eqO_int, eqO_str, eqO_bl, it_tup, it_lst, it_str, intOf_int, zip_tup, zip_lst, rng1_int, rng2_int, cut_tup, cut_lst, set0, setS, bindT1, bindT2, bindP2, ok_pr, sq_lst, sq_own, sq_tup, idx_t, idx_l, idx_o, lam_pur, lam_err, try_pur, try_err, hdR_cons, raise_bnd, enu_tup, sets2, wipe1, wipe2, app_own, frz_own, lstK_lst, isStr_str, enu_lst, map_s, map_n, ofO_n]
    rw [wp_bnd, wp_put (m := 1) e rfl]
    have e' : (s.set c (.lst ([D.int a, .int b].set 1 (.int ((b * 69069 + 12347) % 4294967291)))))[c]? = some (.lst [.int a, .int ((b * 69069 + 12347) % 4294967291)]) := set_at e
    rw [wp_bnd, wp_at e' rfl]
    rw [wp_bnd, wp_at e' rfl]
    have g1 : 0 ≤ (b * 69069 + 12347) % 4294967291 := Int.emod_nonneg _ (by omega)
    have g2 : (b * 69069 + 12347) % 4294967291 < 4294967291 := Int.emod_lt_of_pos _ (by omega)
    generalize hx : (b * 69069 + 12347) % 4294967291 = x at g1 g2 e'
    have hm2 : ((-big < x ∧ x < big) ∨ (-big < x ∧ x < big)) = True := eq_true (.inl (by unfold big; omega))
    simp only [hm2, hk2, hk3, and_self, mod_int h0, ev_var, ev_lit, ev_con, ev_tup, ev_lst, ev_un, ev_bi, ev_ch, ev_not, ev_and, ev_or, ev_ite, ev_cut, ev_call, ev_cel, ev_at0, ev_meth, ev_dct, ev_get2, ev_idx, ev_lam, evL_nil, evL_cons, evO_nil, evO_val, evC_nil, evC_val, itr_val, itr_rng1, itr_rng2, itr_zip, ex_nil, ex_cons, ex_skip, ex_set, ex_own, ex_frz, ex_unp, ex_par, ex_app, ex_put, ex_bad, ex_rse, ex_rsf, ex_try, itr_enu, ex_ret, ex_drop, ex_ite, bnd_assoc, fit_non, fit_bl, fit_int, fit_str, fitL_nil, fitL_cons, eq_ii, eq_ss, eq_bb, List.any_cons, List.any_nil, Bool.or_false, Bool.and_self, Bool.and_true, Bool.true_and, slot0, slotS, ofO_some, some_bnd, pur_bnd, non_bnd, noE_pur, asBl_bl, bnd_ite, if_bl, if_true, if_false, Bool.false_eq_true, Bool.not_true, Bool.not_false, reduceIte, pyAt0, pyAt1, pyAt2, pyAt3, List.getElem?_cons_zero, List.getElem?_cons_succ, u_isStr_non, u_isStr_bl, u_isStr_int, u_isStr_str, u_isStr_tup, u_isStr_lst, u_isStr_own, u_isTup_non, u_isTup_bl, u_isTup_int, u_isTup_str, u_isTup_tup, u_isTup_lst, u_isTup_own, u_isInt_non, u_isInt_bl, u_isInt_int, u_isInt_str, u_isInt_tup, u_isInt_lst, u_isInt_own, u_isBl_non, u_isBl_bl, u_isBl_int, u_isBl_str, u_isBl_tup, u_isBl_lst, u_isBl_own, u_isLst_non, u_isLst_bl, u_isLst_int, u_isLst_str, u_isLst_tup, u_isLst_lst, u_isLst_own, ok_non, ok_bl, ok_int, ok_str, ok_tup, ok_lst, ok_own, ok_ref, u_len_str, u_len_tup, u_len_lst, u_len_own, u_int_int, u_neg_int, u_tuple_tup, u_list_tup, u_tuple_lst, u_list_lst, u_tuple_own, u_list_own, u_rev_tup, u_rev_lst, b_add_int, b_sub_int, b_add_tup, b_add_str, b_add_lst, b_mul_int, b_mod_int, b_fdiv_int, b_eq, b_ne, b_lt_int, b_lt_str, b_le_int, b_le_str, b_gt_int, b_gt_str, b_ge_int, b_ge_str, b_in_tup, b_in_lst, b_nin_tup, b_in_str, b_nin_str, b_is_bl, b_isn_bl, b_ix_tup, b_ix_lst, b_ix_str, eqO_int, eqO_str, eqO_bl, it_tup, it_lst, it_str, intOf_int, zip_tup, zip_lst, rng1_int, rng2_int, cut_tup, cut_lst, set0, setS, bindT1, bindT2, bindP2, ok_pr, sq_lst, sq_own, sq_tup, idx_t, idx_l, idx_o, lam_pur, lam_err, try_pur, try_err, hdR_cons, raise_bnd, enu_tup, sets2, wipe1, wipe2, app_own, frz_own, lstK_lst, isStr_str, enu_lst, map_s, map_n, ofO_n]
    exact hq _ _ (Int.emod_nonneg _ (by omega)) (Int.emod_lt_of_pos _ h0) ⟨a, x, e', ha, g1, g2⟩
end K04



namespace K04
open Ev
theorem wp_for {Φ : Fun} {C : Nat → Option D} {ρ : Env} {tg : List Nat} {it : Ex} {b : Sx} {β : Type} {K : Fl → M β} {Q : β → Store → Prop} {s : Store} (ds : List D) (I : List D → Env → Store → Prop) (h : itr Φ C it ρ = pur ds) (h0 : I [] ρ s)
    (step : ∀ pre d post ρ s, ds = pre ++ d :: post → I pre ρ s → wp (bnd (ofO (bindT tg d ρ)) fun ρ'' => exS Φ C b ρ'') (fun r s' => match r with | .nx ρ' => I (pre ++ [d]) ρ' s' | .ret x => wp (K (.ret x)) Q s') s)
    (hk : ∀ ρ' s', I ds ρ' s' → wp (K (.nx ρ')) Q s') : wp (bnd (exS Φ C (.for_ tg it b) ρ) K) Q s := by
  rw [ex_for, h, pur_bnd, wp_bnd]
  have key : ∀ (rest pre : List D) (ρ : Env) (s : Store), ds = pre ++ rest → I pre ρ s → wp (forL (fun d ρ' => bnd (ofO (bindT tg d ρ')) fun ρ'' => exS Φ C b ρ'') rest ρ) (fun r s' => wp (K r) Q s') s := by
    intro rest
    induction rest with
    | nil =>
      intro pre ρ s e hi
      rw [List.append_nil] at e
      subst e
      exact hk ρ s hi
    | cons d rest ih =>
      intro pre ρ s e hi
      unfold forL
      rw [wp_bnd]
      refine wp_mono (step pre d rest ρ s e hi) fun r s' h' => ?_
      cases r with
      | nx ρ' => exact ih (pre ++ [d]) ρ' s' (by rw [e]; simp) h'
      | ret x => exact h'
  exact key ds [] ρ s rfl h0
theorem mem_at {l : List D} {r : Int} (h0 : 0 ≤ r) (h1 : r < l.length) : ∃ x, x ∈ l ∧ pyAt l r = some x := by
  have hl : r.toNat < l.length := by omega
  exact ⟨l[r.toNat], List.getElem_mem hl, pyAt_len h0 (List.getElem?_eq_getElem hl)⟩
theorem r11 (k : Nat) {c : Nat} {l : List D} {d : D} {s : Store} {Q : D → Store → Prop} (hd : d = .lst l ∨ d = .tup l) (hs : Hd c s) (h0 : 0 < l.length) (h1 : l.length < 1073741824) (hok : ∀ x ∈ l, asOk x = pur x) (hq : ∀ x s', x ∈ l → Hd c s' → Q x s') : wp (F (k + 2) 21 [.ref c, d]) Q s := by
  rw [F, runF_at (fd := f21) rfl rfl]
  show wp (bnd (exS _ _ b21 [some (.ref c), some d]) _) Q s
  unfold b21
  rcases hd with rfl | rfl
  all_goals
    simp only [ev_var, ev_lit, ev_con, ev_tup, ev_lst, ev_un, ev_bi, ev_ch, ev_not, ev_and, ev_or, ev_ite, ev_cut, ev_call, ev_cel, ev_at0, ev_meth, ev_dct, ev_get2, ev_idx, ev_lam, evL_nil, evL_cons, evO_nil, evO_val, evC_nil, evC_val, itr_val, itr_rng1, itr_rng2, itr_zip, ex_nil, ex_cons, ex_skip, ex_set, ex_own, ex_frz, ex_unp, ex_par, ex_app, ex_put, ex_bad, ex_rse, ex_rsf, ex_try, itr_enu, ex_ret, ex_drop, ex_ite, bnd_assoc, fit_non, fit_bl, fit_int, fit_str, fitL_nil, fitL_cons, eq_ii, eq_ss, eq_bb, List.any_cons, List.any_nil, Bool.or_false, Bool.and_self, Bool.and_true, Bool.true_and, slot0, slotS, ofO_some, some_bnd, pur_bnd, non_bnd, noE_pur, asBl_bl, bnd_ite, if_bl, if_true, if_false, Bool.false_eq_true, Bool.not_true, Bool.not_false, reduceIte, pyAt0, pyAt1, pyAt2, pyAt3, List.getElem?_cons_zero, List.getElem?_cons_succ, u_isStr_non, u_isStr_bl, u_isStr_int, u_isStr_str, u_isStr_tup, u_isStr_lst, u_isStr_own, u_isTup_non, u_isTup_bl, u_isTup_int, u_isTup_str, u_isTup_tup, u_isTup_lst, u_isTup_own, u_isInt_non, u_isInt_bl, u_isInt_int, u_isInt_str, u_isInt_tup, u_isInt_lst, u_isInt_own, u_isBl_non, u_isBl_bl, u_isBl_int, u_isBl_str, u_isBl_tup, u_isBl_lst, u_isBl_own, u_isLst_non, u_isLst_bl, u_isLst_int, u_isLst_str, u_isLst_tup, u_isLst_lst, u_isLst_own, ok_non, ok_bl, ok_int, ok_str, ok_tup, ok_lst, ok_own, ok_ref, u_len_str, u_len_tup, u_len_lst, u_len_own, u_int_int, u_neg_int, u_tuple_tup, u_list_tup, u_tuple_lst, u_list_lst, u_tuple_own, u_list_own, u_rev_tup, u_rev_lst, b_add_int, b_sub_int, b_add_tup, b_add_str, b_add_lst, b_mul_int, b_mod_int, b_fdiv_int, b_eq, b_ne, b_lt_int, b_lt_str, b_le_int, b_le_str, b_gt_int, b_gt_str, b_ge_int, b_ge_str, b_in_tup, b_in_lst, b_nin_tup, b_in_str, b_nin_str, b_is_bl, b_isn_bl, b_ix_tup, b_ix_lst, b_ix_str, eqO_int, eqO_str, eqO_bl, it_tup, it_lst, it_str, intOf_int, zip_tup, zip_lst, rng1_int, rng2_int, cut_tup, cut_lst, set0, setS, bindT1, bindT2, bindP2, ok_pr, sq_lst, sq_own, sq_tup, idx_t, idx_l, idx_o, lam_pur, lam_err, try_pur, try_err, hdR_cons, raise_bnd, enu_tup, sets2, wipe1, wipe2, app_own, frz_own, lstK_lst, isStr_str, enu_lst, map_s, map_n, ofO_n]
    rw [wp_bnd]
    refine r10 k hs (by omega) (by omega) fun r s' g0 g1 hs' => ?_
    obtain ⟨x, hx, e⟩ := mem_at g0 g1
    simp only [ev_var, ev_lit, ev_con, ev_tup, ev_lst, ev_un, ev_bi, ev_ch, ev_not, ev_and, ev_or, ev_ite, ev_cut, ev_call, ev_cel, ev_at0, ev_meth, ev_dct, ev_get2, ev_idx, ev_lam, evL_nil, evL_cons, evO_nil, evO_val, evC_nil, evC_val, itr_val, itr_rng1, itr_rng2, itr_zip, ex_nil, ex_cons, ex_skip, ex_set, ex_own, ex_frz, ex_unp, ex_par, ex_app, ex_put, ex_bad, ex_rse, ex_rsf, ex_try, itr_enu, ex_ret, ex_drop, ex_ite, bnd_assoc, fit_non, fit_bl, fit_int, fit_str, fitL_nil, fitL_cons, eq_ii, eq_ss, eq_bb, List.any_cons, List.any_nil, Bool.or_false, Bool.and_self, Bool.and_true, Bool.true_and, slot0, slotS, ofO_some, some_bnd, pur_bnd, non_bnd, noE_pur, asBl_bl, bnd_ite, if_bl, if_true, if_false, Bool.false_eq_true, Bool.not_true, Bool.not_false, reduceIte, pyAt0, pyAt1, pyAt2, pyAt3, List.getElem?_cons_zero, List.getElem?_cons_succ, u_isStr_non, u_isStr_bl, u_isStr_int, u_isStr_str, u_isStr_tup, u_isStr_lst, u_isStr_own, u_isTup_non, u_isTup_bl, u_isTup_int, u_isTup_str, u_isTup_tup, u_isTup_lst, u_isTup_own, u_isInt_non, u_isInt_bl, u_isInt_int, u_isInt_str, u_isInt_tup, u_isInt_lst, u_isInt_own, u_isBl_non, u_isBl_bl, u_isBl_int, u_isBl_str, u_isBl_tup, u_isBl_lst, u_isBl_own, u_isLst_non, u_isLst_bl, u_isLst_int, u_isLst_str, u_isLst_tup, u_isLst_lst, u_isLst_own, ok_non, ok_bl, ok_int, ok_str, ok_tup, ok_lst, ok_own, ok_ref, u_len_str, u_len_tup, u_len_lst, u_len_own, u_int_int, u_neg_int, u_tuple_tup, u_list_tup, u_tuple_lst, u_list_lst, u_tuple_own, u_list_own, u_rev_tup, u_rev_lst, b_add_int, b_sub_int, b_add_tup, b_add_str, b_add_lst, b_mul_int, b_mod_int, b_fdiv_int, b_eq, b_ne, b_lt_int, b_lt_str, b_le_int, b_le_str, b_gt_int, b_gt_str, b_ge_int, b_ge_str, b_in_tup, b_in_lst, b_nin_tup, b_in_str, b_nin_str, b_is_bl, b_isn_bl, b_ix_tup, b_ix_lst, b_ix_str, eqO_int, eqO_str, eqO_bl, it_tup, it_lst, it_str, intOf_int, zip_tup, zip_lst, rng1_int, rng2_int, cut_tup, cut_lst, set0, setS, bindT1, bindT2, bindP2, ok_pr, sq_lst, sq_own, sq_tup, idx_t, idx_l, idx_o, lam_pur, lam_err, try_pur, try_err, hdR_cons, raise_bnd, enu_tup, sets2, wipe1, wipe2, app_own, frz_own, lstK_lst, isStr_str, enu_lst, map_s, map_n, ofO_n, e, hok x hx]
    exact hq x s' hx hs'
theorem word_mem {vs : List D} (hv : vs.all isLabel = true) {x : D} (hx : x ∈ vs) : isWord vs x = true := by
  have e := lab_of (List.all_eq_true.mp hv x hx)
  unfold isWord
  rw [e]
  show (true && _) = true
  rw [Bool.true_and, List.any_eq_true]
  exact ⟨x, hx, by rw [e]; rw [eq_ss]; exact beq_self_eq_true _⟩
theorem all_in {p : D → Bool} {l : List D} (h : l.all p = true) {x : D} (hx : x ∈ l) : p x = true := List.all_eq_true.mp h x hx
theorem lab_ok {x : D} (h : isLabel x = true) : asOk x = pur x := by rw [lab_of h]; rfl
theorem lab_sm {m n : Nat} {x : D} (h : isLabel x = true) : sm m n x = true := by rw [lab_of h]; cases n <;> rfl
theorem zipL_snoc {a b : List D} {x y : D} (h : a.length = b.length) : zipL (a ++ [x]) (b ++ [y]) = zipL a b ++ [.pr x y] := by
  unfold zipL
  rw [List.zip_append h, List.map_append]
  rfl
theorem lim1 {α β : Type} {l : List α} {y : β} {n : Nat} (h : l.length ≤ n) (h2 : n < lim) : (l.length + [y].length ≤ lim) = True := by
  apply eq_true
  simp only [List.length_singleton]
  omega
theorem r12 (k : Nat) {c : Nat} {fs : List D} {s : Store} {Q : D → Store → Prop} (hf : fs.all isField = true) (hl : fs.length ≤ 2) (hs : Hd c s) (hq : ∀ d s', isSide fs d = true → sm 4 3 d = true → Hd c s' → Q d s') : wp (F (k + 3) 22 [.ref c, .tup fs]) Q s := by
  rw [F, runF_at (fd := f22) rfl rfl]
  show wp (bnd (exS _ _ b22 [some (.ref c), some (.tup fs), none, none, none, none, none, none]) _) Q s
  unfold b22
  simp only [ev_var, ev_lit, ev_con, ev_tup, ev_lst, ev_un, ev_bi, ev_ch, ev_not, ev_and, ev_or, ev_ite, ev_cut, ev_call, ev_cel, ev_at0, ev_meth, ev_dct, ev_get2, ev_idx, ev_lam, evL_nil, evL_cons, evO_nil, evO_val, evC_nil, evC_val, itr_val, itr_rng1, itr_rng2, itr_zip, ex_nil, ex_cons, ex_skip, ex_set, ex_own, ex_frz, ex_unp, ex_par, ex_app, ex_put, ex_bad, ex_rse, ex_rsf, ex_try, itr_enu, ex_ret, ex_drop, ex_ite, bnd_assoc, fit_non, fit_bl, fit_int, fit_str, fitL_nil, fitL_cons, eq_ii, eq_ss, eq_bb, List.any_cons, List.any_nil, Bool.or_false, Bool.and_self, Bool.and_true, Bool.true_and, slot0, slotS, ofO_some, some_bnd, pur_bnd, non_bnd, noE_pur, asBl_bl, bnd_ite, if_bl, if_true, if_false, Bool.false_eq_true, Bool.not_true, Bool.not_false, reduceIte, pyAt0, pyAt1, pyAt2, pyAt3, List.getElem?_cons_zero, List.getElem?_cons_succ, u_isStr_non, u_isStr_bl, u_isStr_int, u_isStr_str, u_isStr_tup, u_isStr_lst, u_isStr_own, u_isTup_non, u_isTup_bl, u_isTup_int, u_isTup_str, u_isTup_tup, u_isTup_lst, u_isTup_own, u_isInt_non, u_isInt_bl, u_isInt_int, u_isInt_str, u_isInt_tup, u_isInt_lst, u_isInt_own, u_isBl_non, u_isBl_bl, u_isBl_int, u_isBl_str, u_isBl_tup, u_isBl_lst, u_isBl_own, u_isLst_non, u_isLst_bl, u_isLst_int, u_isLst_str, u_isLst_tup, u_isLst_lst, u_isLst_own, ok_non, ok_bl, ok_int, ok_str, ok_tup, ok_lst, ok_own, ok_ref, u_len_str, u_len_tup, u_len_lst, u_len_own, u_int_int, u_neg_int, u_tuple_tup, u_list_tup, u_tuple_lst, u_list_lst, u_tuple_own, u_list_own, u_rev_tup, u_rev_lst, b_add_int, b_sub_int, b_add_tup, b_add_str, b_add_lst, b_mul_int, b_mod_int, b_fdiv_int, b_eq, b_ne, b_lt_int, b_lt_str, b_le_int, b_le_str, b_gt_int, b_gt_str, b_ge_int, b_ge_str, b_in_tup, b_in_lst, b_nin_tup, b_in_str, b_nin_str, b_is_bl, b_isn_bl, b_ix_tup, b_ix_lst, b_ix_str, eqO_int, eqO_str, eqO_bl, it_tup, it_lst, it_str, intOf_int, zip_tup, zip_lst, rng1_int, rng2_int, cut_tup, cut_lst, set0, setS, bindT1, bindT2, bindP2, ok_pr, sq_lst, sq_own, sq_tup, idx_t, idx_l, idx_o, lam_pur, lam_err, try_pur, try_err, hdR_cons, raise_bnd, enu_tup, sets2, wipe1, wipe2, app_own, frz_own, lstK_lst, isStr_str, enu_lst, map_s, map_n, ofO_n]
  refine wp_for fs (fun pre ρ s => ∃ rows o4 o5 o6 o7, ρ = [some (.ref c), some (.tup fs), some (.tup rows), none, o4, o5, o6, o7] ∧ rows.length = pre.length ∧ (zipL pre rows).all pairOk = true ∧ (∀ r ∈ rows, sm 4 1 r = true) ∧ Hd c s) (by simp only [ev_var, ev_lit, ev_con, ev_tup, ev_lst, ev_un, ev_bi, ev_ch, ev_not, ev_and, ev_or, ev_ite, ev_cut, ev_call, ev_cel, ev_at0, ev_meth, ev_dct, ev_get2, ev_idx, ev_lam, evL_nil, evL_cons, evO_nil, evO_val, evC_nil, evC_val, itr_val, itr_rng1, itr_rng2, itr_zip, ex_nil, ex_cons, ex_skip, ex_set, ex_own, ex_frz, ex_unp, ex_par, ex_app, ex_put, ex_bad, ex_rse, ex_rsf, ex_try, itr_enu, ex_ret, ex_drop, ex_ite, bnd_assoc, fit_non, fit_bl, fit_int, fit_str, fitL_nil, fitL_cons, eq_ii, eq_ss, eq_bb, List.any_cons, List.any_nil, Bool.or_false, Bool.and_self, Bool.and_true, Bool.true_and, slot0, slotS, ofO_some, some_bnd, pur_bnd, non_bnd, noE_pur, asBl_bl, bnd_ite, if_bl, if_true, if_false, Bool.false_eq_true, Bool.not_true, Bool.not_false, reduceIte, pyAt0, pyAt1, pyAt2, pyAt3, List.getElem?_cons_zero, List.getElem?_cons_succ, u_isStr_non, u_isStr_bl, u_isStr_int, u_isStr_str, u_isStr_tup, u_isStr_lst, u_isStr_own, u_isTup_non, u_isTup_bl, u_isTup_int, u_isTup_str, u_isTup_tup, u_isTup_lst, u_isTup_own, u_isInt_non, u_isInt_bl, u_isInt_int, u_isInt_str, u_isInt_tup, u_isInt_lst, u_isInt_own, u_isBl_non, u_isBl_bl, u_isBl_int, u_isBl_str, u_isBl_tup, u_isBl_lst, u_isBl_own, u_isLst_non, u_isLst_bl, u_isLst_int, u_isLst_str, u_isLst_tup, u_isLst_lst, u_isLst_own, ok_non, ok_bl, ok_int, ok_str, ok_tup, ok_lst, ok_own, ok_ref, u_len_str, u_len_tup, u_len_lst, u_len_own, u_int_int, u_neg_int, u_tuple_tup, u_list_tup, u_tuple_lst, u_list_lst, u_tuple_own, u_list_own, u_rev_tup, u_rev_lst, b_add_int, b_sub_int, b_add_tup, b_add_str, b_add_lst, b_mul_int, b_mod_int, b_fdiv_int, b_eq, b_ne, b_lt_int, b_lt_str, b_le_int, b_le_str, b_gt_int, b_gt_str, b_ge_int, b_ge_str, b_in_tup, b_in_lst, b_nin_tup, b_in_str, b_nin_str, b_is_bl, b_isn_bl, b_ix_tup, b_ix_lst, b_ix_str, eqO_int, eqO_str, eqO_bl, it_tup, it_lst, it_str, intOf_int, zip_tup, zip_lst, rng1_int, rng2_int, cut_tup, cut_lst, set0, setS, bindT1, bindT2, bindP2, ok_pr, sq_lst, sq_own, sq_tup, idx_t, idx_l, idx_o, lam_pur, lam_err, try_pur, try_err, hdR_cons, raise_bnd, enu_tup, sets2, wipe1, wipe2, app_own, frz_own, lstK_lst, isStr_str, enu_lst, map_s, map_n, ofO_n]) ⟨[], _, _, _, _, rfl, rfl, rfl, (fun r hr => by cases hr), hs⟩ ?_ ?_
  · rintro pre d post _ s e ⟨rows, o4, o5, o6, o7, rfl, h1, h2, h3, hs⟩
    have hd : d ∈ fs := by rw [e]; simp
    have hpl : pre.length < 2 := by have := congrArg List.length e; simp at this; omega
    have hfd := List.all_eq_true.mp hf d hd
    obtain ⟨nm, vs, rfl, g1, g2, g3⟩ := field_of hfd
    simp only [ev_var, ev_lit, ev_con, ev_tup, ev_lst, ev_un, ev_bi, ev_ch, ev_not, ev_and, ev_or, ev_ite, ev_cut, ev_call, ev_cel, ev_at0, ev_meth, ev_dct, ev_get2, ev_idx, ev_lam, evL_nil, evL_cons, evO_nil, evO_val, evC_nil, evC_val, itr_val, itr_rng1, itr_rng2, itr_zip, ex_nil, ex_cons, ex_skip, ex_set, ex_own, ex_frz, ex_unp, ex_par, ex_app, ex_put, ex_bad, ex_rse, ex_rsf, ex_try, itr_enu, ex_ret, ex_drop, ex_ite, bnd_assoc, fit_non, fit_bl, fit_int, fit_str, fitL_nil, fitL_cons, eq_ii, eq_ss, eq_bb, List.any_cons, List.any_nil, Bool.or_false, Bool.and_self, Bool.and_true, Bool.true_and, slot0, slotS, ofO_some, some_bnd, pur_bnd, non_bnd, noE_pur, asBl_bl, bnd_ite, if_bl, if_true, if_false, Bool.false_eq_true, Bool.not_true, Bool.not_false, reduceIte, pyAt0, pyAt1, pyAt2, pyAt3, List.getElem?_cons_zero, List.getElem?_cons_succ, u_isStr_non, u_isStr_bl, u_isStr_int, u_isStr_str, u_isStr_tup, u_isStr_lst, u_isStr_own, u_isTup_non, u_isTup_bl, u_isTup_int, u_isTup_str, u_isTup_tup, u_isTup_lst, u_isTup_own, u_isInt_non, u_isInt_bl, u_isInt_int, u_isInt_str, u_isInt_tup, u_isInt_lst, u_isInt_own, u_isBl_non, u_isBl_bl, u_isBl_int, u_isBl_str, u_isBl_tup, u_isBl_lst, u_isBl_own, u_isLst_non, u_isLst_bl, u_isLst_int, u_isLst_str, u_isLst_tup, u_isLst_lst, u_isLst_own, ok_non, ok_bl, ok_int, ok_str, ok_tup, ok_lst, ok_own, ok_ref, u_len_str, u_len_tup, u_len_lst, u_len_own, u_int_int, u_neg_int, u_tuple_tup, u_list_tup, u_tuple_lst, u_list_lst, u_tuple_own, u_list_own, u_rev_tup, u_rev_lst, b_add_int, b_sub_int, b_add_tup, b_add_str, b_add_lst, b_mul_int, b_mod_int, b_fdiv_int, b_eq, b_ne, b_lt_int, b_lt_str, b_le_int, b_le_str, b_gt_int, b_gt_str, b_ge_int, b_ge_str, b_in_tup, b_in_lst, b_nin_tup, b_in_str, b_nin_str, b_is_bl, b_isn_bl, b_ix_tup, b_ix_lst, b_ix_str, eqO_int, eqO_str, eqO_bl, it_tup, it_lst, it_str, intOf_int, zip_tup, zip_lst, rng1_int, rng2_int, cut_tup, cut_lst, set0, setS, bindT1, bindT2, bindP2, ok_pr, sq_lst, sq_own, sq_tup, idx_t, idx_l, idx_o, lam_pur, lam_err, try_pur, try_err, hdR_cons, raise_bnd, enu_tup, sets2, wipe1, wipe2, app_own, frz_own, lstK_lst, isStr_str, enu_lst, map_s, map_n, ofO_n]
    refine wp_for vs (fun pr ρ s => ∃ row o7, ρ = [some (.ref c), some (.tup fs), some (.tup rows), none, some (.str nm), some (.tup vs), some (.tup row), o7] ∧ row.length = pr.length ∧ (∀ x ∈ row, x ∈ vs) ∧ Hd c s) (by simp only [ev_var, ev_lit, ev_con, ev_tup, ev_lst, ev_un, ev_bi, ev_ch, ev_not, ev_and, ev_or, ev_ite, ev_cut, ev_call, ev_cel, ev_at0, ev_meth, ev_dct, ev_get2, ev_idx, ev_lam, evL_nil, evL_cons, evO_nil, evO_val, evC_nil, evC_val, itr_val, itr_rng1, itr_rng2, itr_zip, ex_nil, ex_cons, ex_skip, ex_set, ex_own, ex_frz, ex_unp, ex_par, ex_app, ex_put, ex_bad, ex_rse, ex_rsf, ex_try, itr_enu, ex_ret, ex_drop, ex_ite, bnd_assoc, fit_non, fit_bl, fit_int, fit_str, fitL_nil, fitL_cons, eq_ii, eq_ss, eq_bb, List.any_cons, List.any_nil, Bool.or_false, Bool.and_self, Bool.and_true, Bool.true_and, slot0, slotS, ofO_some, some_bnd, pur_bnd, non_bnd, noE_pur, asBl_bl, bnd_ite, if_bl, if_true, if_false, Bool.false_eq_true, Bool.not_true, Bool.not_false, reduceIte, pyAt0, pyAt1, pyAt2, pyAt3, List.getElem?_cons_zero, List.getElem?_cons_succ, u_isStr_non, u_isStr_bl, u_isStr_int, u_isStr_str, u_isStr_tup, u_isStr_lst, u_isStr_own, u_isTup_non, u_isTup_bl, u_isTup_int, u_isTup_str, u_isTup_tup, u_isTup_lst, u_isTup_own, u_isInt_non, u_isInt_bl, u_isInt_int, u_isInt_str, u_isInt_tup, u_isInt_lst, u_isInt_own, u_isBl_non, u_isBl_bl, u_isBl_int, u_isBl_str, u_isBl_tup, u_isBl_lst, u_isBl_own, u_isLst_non, u_isLst_bl, u_isLst_int, u_isLst_str, u_isLst_tup, u_isLst_lst, u_isLst_own, ok_non, ok_bl, ok_int, ok_str, ok_tup, ok_lst, ok_own, ok_ref, u_len_str, u_len_tup, u_len_lst, u_len_own, u_int_int, u_neg_int, u_tuple_tup, u_list_tup, u_tuple_lst, u_list_lst, u_tuple_own, u_list_own, u_rev_tup, u_rev_lst, b_add_int, b_sub_int, b_add_tup, b_add_str, b_add_lst, b_mul_int, b_mod_int, b_fdiv_int, b_eq, b_ne, b_lt_int, b_lt_str, b_le_int, b_le_str, b_gt_int, b_gt_str, b_ge_int, b_ge_str, b_in_tup, b_in_lst, b_nin_tup, b_in_str, b_nin_str, b_is_bl, b_isn_bl, b_ix_tup, b_ix_lst, b_ix_str, eqO_int, eqO_str, eqO_bl, it_tup, it_lst, it_str, intOf_int, zip_tup, zip_lst, rng1_int, rng2_int, cut_tup, cut_lst, set0, setS, bindT1, bindT2, bindP2, ok_pr, sq_lst, sq_own, sq_tup, idx_t, idx_l, idx_o, lam_pur, lam_err, try_pur, try_err, hdR_cons, raise_bnd, enu_tup, sets2, wipe1, wipe2, app_own, frz_own, lstK_lst, isStr_str, enu_lst, map_s, map_n, ofO_n]) ⟨[], _, rfl, rfl, (fun x hx => by cases hx), hs⟩ ?_ ?_
    · rintro pr v po _ s e2 ⟨row, o7, rfl, q1, q2, hs⟩
      have hv : v ∈ vs := by rw [e2]; simp
      have hpl2 : pr.length < 4 := by have := congrArg List.length e2; simp at this; omega
      simp only [ev_var, ev_lit, ev_con, ev_tup, ev_lst, ev_un, ev_bi, ev_ch, ev_not, ev_and, ev_or, ev_ite, ev_cut, ev_call, ev_cel, ev_at0, ev_meth, ev_dct, ev_get2, ev_idx, ev_lam, evL_nil, evL_cons, evO_nil, evO_val, evC_nil, evC_val, itr_val, itr_rng1, itr_rng2, itr_zip, ex_nil, ex_cons, ex_skip, ex_set, ex_own, ex_frz, ex_unp, ex_par, ex_app, ex_put, ex_bad, ex_rse, ex_rsf, ex_try, itr_enu, ex_ret, ex_drop, ex_ite, bnd_assoc, fit_non, fit_bl, fit_int, fit_str, fitL_nil, fitL_cons, eq_ii, eq_ss, eq_bb, List.any_cons, List.any_nil, Bool.or_false, Bool.and_self, Bool.and_true, Bool.true_and, slot0, slotS, ofO_some, some_bnd, pur_bnd, non_bnd, noE_pur, asBl_bl, bnd_ite, if_bl, if_true, if_false, Bool.false_eq_true, Bool.not_true, Bool.not_false, reduceIte, pyAt0, pyAt1, pyAt2, pyAt3, List.getElem?_cons_zero, List.getElem?_cons_succ, u_isStr_non, u_isStr_bl, u_isStr_int, u_isStr_str, u_isStr_tup, u_isStr_lst, u_isStr_own, u_isTup_non, u_isTup_bl, u_isTup_int, u_isTup_str, u_isTup_tup, u_isTup_lst, u_isTup_own, u_isInt_non, u_isInt_bl, u_isInt_int, u_isInt_str, u_isInt_tup, u_isInt_lst, u_isInt_own, u_isBl_non, u_isBl_bl, u_isBl_int, u_isBl_str, u_isBl_tup, u_isBl_lst, u_isBl_own, u_isLst_non, u_isLst_bl, u_isLst_int, u_isLst_str, u_isLst_tup, u_isLst_lst, u_isLst_own, ok_non, ok_bl, ok_int, ok_str, ok_tup, ok_lst, ok_own, ok_ref, u_len_str, u_len_tup, u_len_lst, u_len_own, u_int_int, u_neg_int, u_tuple_tup, u_list_tup, u_tuple_lst, u_list_lst, u_tuple_own, u_list_own, u_rev_tup, u_rev_lst, b_add_int, b_sub_int, b_add_tup, b_add_str, b_add_lst, b_mul_int, b_mod_int, b_fdiv_int, b_eq, b_ne, b_lt_int, b_lt_str, b_le_int, b_le_str, b_gt_int, b_gt_str, b_ge_int, b_ge_str, b_in_tup, b_in_lst, b_nin_tup, b_in_str, b_nin_str, b_is_bl, b_isn_bl, b_ix_tup, b_ix_lst, b_ix_str, eqO_int, eqO_str, eqO_bl, it_tup, it_lst, it_str, intOf_int, zip_tup, zip_lst, rng1_int, rng2_int, cut_tup, cut_lst, set0, setS, bindT1, bindT2, bindP2, ok_pr, sq_lst, sq_own, sq_tup, idx_t, idx_l, idx_o, lam_pur, lam_err, try_pur, try_err, hdR_cons, raise_bnd, enu_tup, sets2, wipe1, wipe2, app_own, frz_own, lstK_lst, isStr_str, enu_lst, map_s, map_n, ofO_n]
      rw [wp_bnd]
      refine r10 (k + 1) hs (by omega) (by omega) fun r s' _ _ hs' => ?_
      simp only [ev_var, ev_lit, ev_con, ev_tup, ev_lst, ev_un, ev_bi, ev_ch, ev_not, ev_and, ev_or, ev_ite, ev_cut, ev_call, ev_cel, ev_at0, ev_meth, ev_dct, ev_get2, ev_idx, ev_lam, evL_nil, evL_cons, evO_nil, evO_val, evC_nil, evC_val, itr_val, itr_rng1, itr_rng2, itr_zip, ex_nil, ex_cons, ex_skip, ex_set, ex_own, ex_frz, ex_unp, ex_par, ex_app, ex_put, ex_bad, ex_rse, ex_rsf, ex_try, itr_enu, ex_ret, ex_drop, ex_ite, bnd_assoc, fit_non, fit_bl, fit_int, fit_str, fitL_nil, fitL_cons, eq_ii, eq_ss, eq_bb, List.any_cons, List.any_nil, Bool.or_false, Bool.and_self, Bool.and_true, Bool.true_and, slot0, slotS, ofO_some, some_bnd, pur_bnd, non_bnd, noE_pur, asBl_bl, bnd_ite, if_bl, if_true, if_false, Bool.false_eq_true, Bool.not_true, Bool.not_false, reduceIte, pyAt0, pyAt1, pyAt2, pyAt3, List.getElem?_cons_zero, List.getElem?_cons_succ, u_isStr_non, u_isStr_bl, u_isStr_int, u_isStr_str, u_isStr_tup, u_isStr_lst, u_isStr_own, u_isTup_non, u_isTup_bl, u_isTup_int, u_isTup_str, u_isTup_tup, u_isTup_lst, u_isTup_own, u_isInt_non, u_isInt_bl, u_isInt_int, u_isInt_str, u_isInt_tup, u_isInt_lst, u_isInt_own, u_isBl_non, u_isBl_bl, u_isBl_int, u_isBl_str, u_isBl_tup, u_isBl_lst, u_isBl_own, u_isLst_non, u_isLst_bl, u_isLst_int, u_isLst_str, u_isLst_tup, u_isLst_lst, u_isLst_own, ok_non, ok_bl, ok_int, ok_str, ok_tup, ok_lst, ok_own, ok_ref, u_len_str, u_len_tup, u_len_lst, u_len_own, u_int_int, u_neg_int, u_tuple_tup, u_list_tup, u_tuple_lst, u_list_lst, u_tuple_own, u_list_own, u_rev_tup, u_rev_lst, b_add_int, b_sub_int, b_add_tup, b_add_str, b_add_lst, b_mul_int, b_mod_int, b_fdiv_int, b_eq, b_ne, b_lt_int, b_lt_str, b_le_int, b_le_str, b_gt_int, b_gt_str, b_ge_int, b_ge_str, b_in_tup, b_in_lst, b_nin_tup, b_in_str, b_nin_str, b_is_bl, b_isn_bl, b_ix_tup, b_ix_lst, b_ix_str, eqO_int, eqO_str, eqO_bl, it_tup, it_lst, it_str, intOf_int, zip_tup, zip_lst, rng1_int, rng2_int, cut_tup, cut_lst, set0, setS, bindT1, bindT2, bindP2, ok_pr, sq_lst, sq_own, sq_tup, idx_t, idx_l, idx_o, lam_pur, lam_err, try_pur, try_err, hdR_cons, raise_bnd, enu_tup, sets2, wipe1, wipe2, app_own, frz_own, lstK_lst, isStr_str, enu_lst, map_s, map_n, ofO_n]
      by_cases hr : 0 < r
      · simp only [hr, decide_true, ev_var, ev_lit, ev_con, ev_tup, ev_lst, ev_un, ev_bi, ev_ch, ev_not, ev_and, ev_or, ev_ite, ev_cut, ev_call, ev_cel, ev_at0, ev_meth, ev_dct, ev_get2, ev_idx, ev_lam, evL_nil, evL_cons, evO_nil, evO_val, evC_nil, evC_val, itr_val, itr_rng1, itr_rng2, itr_zip, ex_nil, ex_cons, ex_skip, ex_set, ex_own, ex_frz, ex_unp, ex_par, ex_app, ex_put, ex_bad, ex_rse, ex_rsf, ex_try, itr_enu, ex_ret, ex_drop, ex_ite, bnd_assoc, fit_non, fit_bl, fit_int, fit_str, fitL_nil, fitL_cons, eq_ii, eq_ss, eq_bb, List.any_cons, List.any_nil, Bool.or_false, Bool.and_self, Bool.and_true, Bool.true_and, slot0, slotS, ofO_some, some_bnd, pur_bnd, non_bnd, noE_pur, asBl_bl, bnd_ite, if_bl, if_true, if_false, Bool.false_eq_true, Bool.not_true, Bool.not_false, reduceIte, pyAt0, pyAt1, pyAt2, pyAt3, List.getElem?_cons_zero, List.getElem?_cons_succ, u_isStr_non, u_isStr_bl, u_isStr_int, u_isStr_str, u_isStr_tup, u_isStr_lst, u_isStr_own, u_isTup_non, u_isTup_bl, u_isTup_int, u_isTup_str, u_isTup_tup, u_isTup_lst, u_isTup_own, u_isInt_non, u_isInt_bl, u_isInt_int, u_isInt_str, u_isInt_tup, u_isInt_lst, u_isInt_own, u_isBl_non, u_isBl_bl, u_isBl_int, u_isBl_str, u_isBl_tup, u_isBl_lst, u_isBl_own, u_isLst_non, u_isLst_bl, u_isLst_int, u_isLst_str, u_isLst_tup, u_isLst_lst, u_isLst_own, ok_non, ok_bl, ok_int, ok_str, ok_tup, ok_lst, ok_own, ok_ref, u_len_str, u_len_tup, u_len_lst, u_len_own, u_int_int, u_neg_int, u_tuple_tup, u_list_tup, u_tuple_lst, u_list_lst, u_tuple_own, u_list_own, u_rev_tup, u_rev_lst, b_add_int, b_sub_int, b_add_tup, b_add_str, b_add_lst, b_mul_int, b_mod_int, b_fdiv_int, b_eq, b_ne, b_lt_int, b_lt_str, b_le_int, b_le_str, b_gt_int, b_gt_str, b_ge_int, b_ge_str, b_in_tup, b_in_lst, b_nin_tup, b_in_str, b_nin_str, b_is_bl, b_isn_bl, b_ix_tup, b_ix_lst, b_ix_str, eqO_int, eqO_str, eqO_bl, it_tup, it_lst, it_str, intOf_int, zip_tup, zip_lst, rng1_int, rng2_int, cut_tup, cut_lst, set0, setS, bindT1, bindT2, bindP2, ok_pr, sq_lst, sq_own, sq_tup, idx_t, idx_l, idx_o, lam_pur, lam_err, try_pur, try_err, hdR_cons, raise_bnd, enu_tup, sets2, wipe1, wipe2, app_own, frz_own, lstK_lst, isStr_str, enu_lst, map_s, map_n, ofO_n, lab_ok (List.all_eq_true.mp g3 v hv), lim1 (l := row) (show row.length ≤ 4 by omega) (by decide)]
        exact ⟨row ++ [v], _, rfl, by simp [q1], fun x hx => by
          rcases List.mem_append.mp hx with hx | hx
          · exact q2 x hx
          · rw [List.mem_singleton.mp hx]; exact hv, hs'⟩
      · simp only [hr, decide_false, ev_var, ev_lit, ev_con, ev_tup, ev_lst, ev_un, ev_bi, ev_ch, ev_not, ev_and, ev_or, ev_ite, ev_cut, ev_call, ev_cel, ev_at0, ev_meth, ev_dct, ev_get2, ev_idx, ev_lam, evL_nil, evL_cons, evO_nil, evO_val, evC_nil, evC_val, itr_val, itr_rng1, itr_rng2, itr_zip, ex_nil, ex_cons, ex_skip, ex_set, ex_own, ex_frz, ex_unp, ex_par, ex_app, ex_put, ex_bad, ex_rse, ex_rsf, ex_try, itr_enu, ex_ret, ex_drop, ex_ite, bnd_assoc, fit_non, fit_bl, fit_int, fit_str, fitL_nil, fitL_cons, eq_ii, eq_ss, eq_bb, List.any_cons, List.any_nil, Bool.or_false, Bool.and_self, Bool.and_true, Bool.true_and, slot0, slotS, ofO_some, some_bnd, pur_bnd, non_bnd, noE_pur, asBl_bl, bnd_ite, if_bl, if_true, if_false, Bool.false_eq_true, Bool.not_true, Bool.not_false, reduceIte, pyAt0, pyAt1, pyAt2, pyAt3, List.getElem?_cons_zero, List.getElem?_cons_succ, u_isStr_non, u_isStr_bl, u_isStr_int, u_isStr_str, u_isStr_tup, u_isStr_lst, u_isStr_own, u_isTup_non, u_isTup_bl, u_isTup_int, u_isTup_str, u_isTup_tup, u_isTup_lst, u_isTup_own, u_isInt_non, u_isInt_bl, u_isInt_int, u_isInt_str, u_isInt_tup, u_isInt_lst, u_isInt_own, u_isBl_non, u_isBl_bl, u_isBl_int, u_isBl_str, u_isBl_tup, u_isBl_lst, u_isBl_own, u_isLst_non, u_isLst_bl, u_isLst_int, u_isLst_str, u_isLst_tup, u_isLst_lst, u_isLst_own, ok_non, ok_bl, ok_int, ok_str, ok_tup, ok_lst, ok_own, ok_ref, u_len_str, u_len_tup, u_len_lst, u_len_own, u_int_int, u_neg_int, u_tuple_tup, u_list_tup, u_tuple_lst, u_list_lst, u_tuple_own, u_list_own, u_rev_tup, u_rev_lst, b_add_int, b_sub_int, b_add_tup, b_add_str, b_add_lst, b_mul_int, b_mod_int, b_fdiv_int, b_eq, b_ne, b_lt_int, b_lt_str, b_le_int, b_le_str, b_gt_int, b_gt_str, b_ge_int, b_ge_str, b_in_tup, b_in_lst, b_nin_tup, b_in_str, b_nin_str, b_is_bl, b_isn_bl, b_ix_tup, b_ix_lst, b_ix_str, eqO_int, eqO_str, eqO_bl, it_tup, it_lst, it_str, intOf_int, zip_tup, zip_lst, rng1_int, rng2_int, cut_tup, cut_lst, set0, setS, bindT1, bindT2, bindP2, ok_pr, sq_lst, sq_own, sq_tup, idx_t, idx_l, idx_o, lam_pur, lam_err, try_pur, try_err, hdR_cons, raise_bnd, enu_tup, sets2, wipe1, wipe2, app_own, frz_own, lstK_lst, isStr_str, enu_lst, map_s, map_n, ofO_n]
        rw [wp_bnd]
        refine r11 k (l := vs) (.inr rfl) hs' (by omega) (by omega) (fun x hx => lab_ok (List.all_eq_true.mp g3 x hx)) fun x s'' hx hs'' => ?_
        simp only [ev_var, ev_lit, ev_con, ev_tup, ev_lst, ev_un, ev_bi, ev_ch, ev_not, ev_and, ev_or, ev_ite, ev_cut, ev_call, ev_cel, ev_at0, ev_meth, ev_dct, ev_get2, ev_idx, ev_lam, evL_nil, evL_cons, evO_nil, evO_val, evC_nil, evC_val, itr_val, itr_rng1, itr_rng2, itr_zip, ex_nil, ex_cons, ex_skip, ex_set, ex_own, ex_frz, ex_unp, ex_par, ex_app, ex_put, ex_bad, ex_rse, ex_rsf, ex_try, itr_enu, ex_ret, ex_drop, ex_ite, bnd_assoc, fit_non, fit_bl, fit_int, fit_str, fitL_nil, fitL_cons, eq_ii, eq_ss, eq_bb, List.any_cons, List.any_nil, Bool.or_false, Bool.and_self, Bool.and_true, Bool.true_and, slot0, slotS, ofO_some, some_bnd, pur_bnd, non_bnd, noE_pur, asBl_bl, bnd_ite, if_bl, if_true, if_false, Bool.false_eq_true, Bool.not_true, Bool.not_false, reduceIte, pyAt0, pyAt1, pyAt2, pyAt3, List.getElem?_cons_zero, List.getElem?_cons_succ, u_isStr_non, u_isStr_bl, u_isStr_int, u_isStr_str, u_isStr_tup, u_isStr_lst, u_isStr_own, u_isTup_non, u_isTup_bl, u_isTup_int, u_isTup_str, u_isTup_tup, u_isTup_lst, u_isTup_own, u_isInt_non, u_isInt_bl, u_isInt_int, u_isInt_str, u_isInt_tup, u_isInt_lst, u_isInt_own, u_isBl_non, u_isBl_bl, u_isBl_int, u_isBl_str, u_isBl_tup, u_isBl_lst, u_isBl_own, u_isLst_non, u_isLst_bl, u_isLst_int, u_isLst_str, u_isLst_tup, u_isLst_lst, u_isLst_own, ok_non, ok_bl, ok_int, ok_str, ok_tup, ok_lst, ok_own, ok_ref, u_len_str, u_len_tup, u_len_lst, u_len_own, u_int_int, u_neg_int, u_tuple_tup, u_list_tup, u_tuple_lst, u_list_lst, u_tuple_own, u_list_own, u_rev_tup, u_rev_lst, b_add_int, b_sub_int, b_add_tup, b_add_str, b_add_lst, b_mul_int, b_mod_int, b_fdiv_int, b_eq, b_ne, b_lt_int, b_lt_str, b_le_int, b_le_str, b_gt_int, b_gt_str, b_ge_int, b_ge_str, b_in_tup, b_in_lst, b_nin_tup, b_in_str, b_nin_str, b_is_bl, b_isn_bl, b_ix_tup, b_ix_lst, b_ix_str, eqO_int, eqO_str, eqO_bl, it_tup, it_lst, it_str, intOf_int, zip_tup, zip_lst, rng1_int, rng2_int, cut_tup, cut_lst, set0, setS, bindT1, bindT2, bindP2, ok_pr, sq_lst, sq_own, sq_tup, idx_t, idx_l, idx_o, lam_pur, lam_err, try_pur, try_err, hdR_cons, raise_bnd, enu_tup, sets2, wipe1, wipe2, app_own, frz_own, lstK_lst, isStr_str, enu_lst, map_s, map_n, ofO_n, lab_ok (List.all_eq_true.mp g3 x hx), lim1 (l := row) (show row.length ≤ 4 by omega) (by decide)]
        exact ⟨row ++ [x], _, rfl, by simp [q1], fun y hy => by
          rcases List.mem_append.mp hy with hy | hy
          · exact q2 y hy
          · rw [List.mem_singleton.mp hy]; exact hx, hs''⟩
    · rintro _ s ⟨row, o7, rfl, q1, q2, hs⟩
      simp only [ev_var, ev_lit, ev_con, ev_tup, ev_lst, ev_un, ev_bi, ev_ch, ev_not, ev_and, ev_or, ev_ite, ev_cut, ev_call, ev_cel, ev_at0, ev_meth, ev_dct, ev_get2, ev_idx, ev_lam, evL_nil, evL_cons, evO_nil, evO_val, evC_nil, evC_val, itr_val, itr_rng1, itr_rng2, itr_zip, ex_nil, ex_cons, ex_skip, ex_set, ex_own, ex_frz, ex_unp, ex_par, ex_app, ex_put, ex_bad, ex_rse, ex_rsf, ex_try, itr_enu, ex_ret, ex_drop, ex_ite, bnd_assoc, fit_non, fit_bl, fit_int, fit_str, fitL_nil, fitL_cons, eq_ii, eq_ss, eq_bb, List.any_cons, List.any_nil, Bool.or_false, Bool.and_self, Bool.and_true, Bool.true_and, slot0, slotS, ofO_some, some_bnd, pur_bnd, non_bnd, noE_pur, asBl_bl, bnd_ite, if_bl, if_true, if_false, Bool.false_eq_true, Bool.not_true, Bool.not_false, reduceIte, pyAt0, pyAt1, pyAt2, pyAt3, List.getElem?_cons_zero, List.getElem?_cons_succ, u_isStr_non, u_isStr_bl, u_isStr_int, u_isStr_str, u_isStr_tup, u_isStr_lst, u_isStr_own, u_isTup_non, u_isTup_bl, u_isTup_int, u_isTup_str, u_isTup_tup, u_isTup_lst, u_isTup_own, u_isInt_non, u_isInt_bl, u_isInt_int, u_isInt_str, u_isInt_tup, u_isInt_lst, u_isInt_own, u_isBl_non, u_isBl_bl, u_isBl_int, u_isBl_str, u_isBl_tup, u_isBl_lst, u_isBl_own, u_isLst_non, u_isLst_bl, u_isLst_int, u_isLst_str, u_isLst_tup, u_isLst_lst, u_isLst_own, ok_non, ok_bl, ok_int, ok_str, ok_tup, ok_lst, ok_own, ok_ref, u_len_str, u_len_tup, u_len_lst, u_len_own, u_int_int, u_neg_int, u_tuple_tup, u_list_tup, u_tuple_lst, u_list_lst, u_tuple_own, u_list_own, u_rev_tup, u_rev_lst, b_add_int, b_sub_int, b_add_tup, b_add_str, b_add_lst, b_mul_int, b_mod_int, b_fdiv_int, b_eq, b_ne, b_lt_int, b_lt_str, b_le_int, b_le_str, b_gt_int, b_gt_str, b_ge_int, b_ge_str, b_in_tup, b_in_lst, b_nin_tup, b_in_str, b_nin_str, b_is_bl, b_isn_bl, b_ix_tup, b_ix_lst, b_ix_str, eqO_int, eqO_str, eqO_bl, it_tup, it_lst, it_str, intOf_int, zip_tup, zip_lst, rng1_int, rng2_int, cut_tup, cut_lst, set0, setS, bindT1, bindT2, bindP2, ok_pr, sq_lst, sq_own, sq_tup, idx_t, idx_l, idx_o, lam_pur, lam_err, try_pur, try_err, hdR_cons, raise_bnd, enu_tup, sets2, wipe1, wipe2, app_own, frz_own, lstK_lst, isStr_str, enu_lst, map_s, map_n, ofO_n, lim1 (l := rows) (show rows.length ≤ 2 by omega) (by decide)]
      refine ⟨rows ++ [.tup row], _, _, _, _, rfl, by simp [h1], ?_, ?_, hs⟩
      · rw [zipL_snoc h1.symm, List.all_append, h2]
        show (pairOk (.pr (.tup [.str nm, .tup vs]) (.tup row)) && true) = true
        have hp : pairOk (.pr (.tup [.str nm, .tup vs]) (.tup row)) = (decide (row.length = vs.length) && row.all (isWord vs)) := rfl
        rw [hp, q1, decide_eq_true rfl, Bool.true_and, Bool.and_true, List.all_eq_true]
        exact fun x hx => word_mem g3 (q2 x hx)
      · intro r hr
        rcases List.mem_append.mp hr with hr | hr
        · exact h3 r hr
        · rw [List.mem_singleton.mp hr]
          exact sm_tup.mpr ⟨by omega, fun x hx => lab_sm (List.all_eq_true.mp g3 x (q2 x hx))⟩
  · rintro _ s ⟨rows, o4, o5, o6, o7, rfl, h1, h2, h3, hs⟩
    simp only [ev_var, ev_lit, ev_con, ev_tup, ev_lst, ev_un, ev_bi, ev_ch, ev_not, ev_and, ev_or, ev_ite, ev_cut, ev_call, ev_cel, ev_at0, ev_meth, ev_dct, ev_get2, ev_idx, ev_lam, evL_nil, evL_cons, evO_nil, evO_val, evC_nil, evC_val, itr_val, itr_rng1, itr_rng2, itr_zip, ex_nil, ex_cons, ex_skip, ex_set, ex_own, ex_frz, ex_unp, ex_par, ex_app, ex_put, ex_bad, ex_rse, ex_rsf, ex_try, itr_enu, ex_ret, ex_drop, ex_ite, bnd_assoc, fit_non, fit_bl, fit_int, fit_str, fitL_nil, fitL_cons, eq_ii, eq_ss, eq_bb, List.any_cons, List.any_nil, Bool.or_false, Bool.and_self, Bool.and_true, Bool.true_and, slot0, slotS, ofO_some, some_bnd, pur_bnd, non_bnd, noE_pur, asBl_bl, bnd_ite, if_bl, if_true, if_false, Bool.false_eq_true, Bool.not_true, Bool.not_false, reduceIte, pyAt0, pyAt1, pyAt2, pyAt3, List.getElem?_cons_zero, List.getElem?_cons_succ, u_isStr_non, u_isStr_bl, u_isStr_int, u_isStr_str, u_isStr_tup, u_isStr_lst, u_isStr_own, u_isTup_non, u_isTup_bl, u_isTup_int, u_isTup_str, u_isTup_tup, u_isTup_lst, u_isTup_own, u_isInt_non, u_isInt_bl, u_isInt_int, u_isInt_str, u_isInt_tup, u_isInt_lst, u_isInt_own, u_isBl_non, u_isBl_bl, u_isBl_int, u_isBl_str, u_isBl_tup, u_isBl_lst, u_isBl_own, u_isLst_non, u_isLst_bl, u_isLst_int, u_isLst_str, u_isLst_tup, u_isLst_lst, u_isLst_own, ok_non, ok_bl, ok_int, ok_str, ok_tup, ok_lst, ok_own, ok_ref, u_len_str, u_len_tup, u_len_lst, u_len_own, u_int_int, u_neg_int, u_tuple_tup, u_list_tup, u_tuple_lst, u_list_lst, u_tuple_own, u_list_own, u_rev_tup, u_rev_lst, b_add_int, b_sub_int, b_add_tup, b_add_str, b_add_lst, b_mul_int, b_mod_int, b_fdiv_int, b_eq, b_ne, b_lt_int, b_lt_str, b_le_int, b_le_str, b_gt_int, b_gt_str, b_ge_int, b_ge_str, b_in_tup, b_in_lst, b_nin_tup, b_in_str, b_nin_str, b_is_bl, b_isn_bl, b_ix_tup, b_ix_lst, b_ix_str, eqO_int, eqO_str, eqO_bl, it_tup, it_lst, it_str, intOf_int, zip_tup, zip_lst, rng1_int, rng2_int, cut_tup, cut_lst, set0, setS, bindT1, bindT2, bindP2, ok_pr, sq_lst, sq_own, sq_tup, idx_t, idx_l, idx_o, lam_pur, lam_err, try_pur, try_err, hdR_cons, raise_bnd, enu_tup, sets2, wipe1, wipe2, app_own, frz_own, lstK_lst, isStr_str, enu_lst, map_s, map_n, ofO_n]
    rw [wp_bnd]
    refine r11 (k + 1) (l := [.str [99, 104, 97, 110, 103, 101, 100], .str [99, 104, 97, 110, 103, 101, 100], .str [97, 108, 119, 97, 121, 115], .str [110, 101, 118, 101, 114]]) (.inl rfl) hs (by decide) (by decide) (fun x hx => lab_ok (all_in (p := isLabel) rfl hx)) fun x s1 hx hs1 => ?_
    have w1 : isWord answers x = true := all_in (p := isWord answers) (by decide) hx
    have l1 : isLabel x = true := all_in (p := isLabel) rfl hx
    simp only [ev_var, ev_lit, ev_con, ev_tup, ev_lst, ev_un, ev_bi, ev_ch, ev_not, ev_and, ev_or, ev_ite, ev_cut, ev_call, ev_cel, ev_at0, ev_meth, ev_dct, ev_get2, ev_idx, ev_lam, evL_nil, evL_cons, evO_nil, evO_val, evC_nil, evC_val, itr_val, itr_rng1, itr_rng2, itr_zip, ex_nil, ex_cons, ex_skip, ex_set, ex_own, ex_frz, ex_unp, ex_par, ex_app, ex_put, ex_bad, ex_rse, ex_rsf, ex_try, itr_enu, ex_ret, ex_drop, ex_ite, bnd_assoc, fit_non, fit_bl, fit_int, fit_str, fitL_nil, fitL_cons, eq_ii, eq_ss, eq_bb, List.any_cons, List.any_nil, Bool.or_false, Bool.and_self, Bool.and_true, Bool.true_and, slot0, slotS, ofO_some, some_bnd, pur_bnd, non_bnd, noE_pur, asBl_bl, bnd_ite, if_bl, if_true, if_false, Bool.false_eq_true, Bool.not_true, Bool.not_false, reduceIte, pyAt0, pyAt1, pyAt2, pyAt3, List.getElem?_cons_zero, List.getElem?_cons_succ, u_isStr_non, u_isStr_bl, u_isStr_int, u_isStr_str, u_isStr_tup, u_isStr_lst, u_isStr_own, u_isTup_non, u_isTup_bl, u_isTup_int, u_isTup_str, u_isTup_tup, u_isTup_lst, u_isTup_own, u_isInt_non, u_isInt_bl, u_isInt_int, u_isInt_str, u_isInt_tup, u_isInt_lst, u_isInt_own, u_isBl_non, u_isBl_bl, u_isBl_int, u_isBl_str, u_isBl_tup, u_isBl_lst, u_isBl_own, u_isLst_non, u_isLst_bl, u_isLst_int, u_isLst_str, u_isLst_tup, u_isLst_lst, u_isLst_own, ok_non, ok_bl, ok_int, ok_str, ok_tup, ok_lst, ok_own, ok_ref, u_len_str, u_len_tup, u_len_lst, u_len_own, u_int_int, u_neg_int, u_tuple_tup, u_list_tup, u_tuple_lst, u_list_lst, u_tuple_own, u_list_own, u_rev_tup, u_rev_lst, b_add_int, b_sub_int, b_add_tup, b_add_str, b_add_lst, b_mul_int, b_mod_int, b_fdiv_int, b_eq, b_ne, b_lt_int, b_lt_str, b_le_int, b_le_str, b_gt_int, b_gt_str, b_ge_int, b_ge_str, b_in_tup, b_in_lst, b_nin_tup, b_in_str, b_nin_str, b_is_bl, b_isn_bl, b_ix_tup, b_ix_lst, b_ix_str, eqO_int, eqO_str, eqO_bl, it_tup, it_lst, it_str, intOf_int, zip_tup, zip_lst, rng1_int, rng2_int, cut_tup, cut_lst, set0, setS, bindT1, bindT2, bindP2, ok_pr, sq_lst, sq_own, sq_tup, idx_t, idx_l, idx_o, lam_pur, lam_err, try_pur, try_err, hdR_cons, raise_bnd, enu_tup, sets2, wipe1, wipe2, app_own, frz_own, lstK_lst, isStr_str, enu_lst, map_s, map_n, ofO_n, lab_ok l1]
    rw [wp_bnd]
    refine r11 (k + 1) (l := [.str [97, 108, 119, 97, 121, 115], .str [99, 104, 97, 110, 103, 101, 100]]) (.inl rfl) hs1 (by decide) (by decide) (fun x hx => lab_ok (all_in (p := isLabel) rfl hx)) fun y s2 hy hs2 => ?_
    have w2 : isWord tells y = true := all_in (p := isWord tells) (by decide) hy
    have l2 : isLabel y = true := all_in (p := isLabel) rfl hy
    simp only [ev_var, ev_lit, ev_con, ev_tup, ev_lst, ev_un, ev_bi, ev_ch, ev_not, ev_and, ev_or, ev_ite, ev_cut, ev_call, ev_cel, ev_at0, ev_meth, ev_dct, ev_get2, ev_idx, ev_lam, evL_nil, evL_cons, evO_nil, evO_val, evC_nil, evC_val, itr_val, itr_rng1, itr_rng2, itr_zip, ex_nil, ex_cons, ex_skip, ex_set, ex_own, ex_frz, ex_unp, ex_par, ex_app, ex_put, ex_bad, ex_rse, ex_rsf, ex_try, itr_enu, ex_ret, ex_drop, ex_ite, bnd_assoc, fit_non, fit_bl, fit_int, fit_str, fitL_nil, fitL_cons, eq_ii, eq_ss, eq_bb, List.any_cons, List.any_nil, Bool.or_false, Bool.and_self, Bool.and_true, Bool.true_and, slot0, slotS, ofO_some, some_bnd, pur_bnd, non_bnd, noE_pur, asBl_bl, bnd_ite, if_bl, if_true, if_false, Bool.false_eq_true, Bool.not_true, Bool.not_false, reduceIte, pyAt0, pyAt1, pyAt2, pyAt3, List.getElem?_cons_zero, List.getElem?_cons_succ, u_isStr_non, u_isStr_bl, u_isStr_int, u_isStr_str, u_isStr_tup, u_isStr_lst, u_isStr_own, u_isTup_non, u_isTup_bl, u_isTup_int, u_isTup_str, u_isTup_tup, u_isTup_lst, u_isTup_own, u_isInt_non, u_isInt_bl, u_isInt_int, u_isInt_str, u_isInt_tup, u_isInt_lst, u_isInt_own, u_isBl_non, u_isBl_bl, u_isBl_int, u_isBl_str, u_isBl_tup, u_isBl_lst, u_isBl_own, u_isLst_non, u_isLst_bl, u_isLst_int, u_isLst_str, u_isLst_tup, u_isLst_lst, u_isLst_own, ok_non, ok_bl, ok_int, ok_str, ok_tup, ok_lst, ok_own, ok_ref, u_len_str, u_len_tup, u_len_lst, u_len_own, u_int_int, u_neg_int, u_tuple_tup, u_list_tup, u_tuple_lst, u_list_lst, u_tuple_own, u_list_own, u_rev_tup, u_rev_lst, b_add_int, b_sub_int, b_add_tup, b_add_str, b_add_lst, b_mul_int, b_mod_int, b_fdiv_int, b_eq, b_ne, b_lt_int, b_lt_str, b_le_int, b_le_str, b_gt_int, b_gt_str, b_ge_int, b_ge_str, b_in_tup, b_in_lst, b_nin_tup, b_in_str, b_nin_str, b_is_bl, b_isn_bl, b_ix_tup, b_ix_lst, b_ix_str, eqO_int, eqO_str, eqO_bl, it_tup, it_lst, it_str, intOf_int, zip_tup, zip_lst, rng1_int, rng2_int, cut_tup, cut_lst, set0, setS, bindT1, bindT2, bindP2, ok_pr, sq_lst, sq_own, sq_tup, idx_t, idx_l, idx_o, lam_pur, lam_err, try_pur, try_err, hdR_cons, raise_bnd, enu_tup, sets2, wipe1, wipe2, app_own, frz_own, lstK_lst, isStr_str, enu_lst, map_s, map_n, ofO_n, lab_ok l2]
    rw [wp_bnd]
    refine r10 (k + 2) hs2 (by omega) (by omega) fun r s3 _ _ hs3 => ?_
    simp only [ev_var, ev_lit, ev_con, ev_tup, ev_lst, ev_un, ev_bi, ev_ch, ev_not, ev_and, ev_or, ev_ite, ev_cut, ev_call, ev_cel, ev_at0, ev_meth, ev_dct, ev_get2, ev_idx, ev_lam, evL_nil, evL_cons, evO_nil, evO_val, evC_nil, evC_val, itr_val, itr_rng1, itr_rng2, itr_zip, ex_nil, ex_cons, ex_skip, ex_set, ex_own, ex_frz, ex_unp, ex_par, ex_app, ex_put, ex_bad, ex_rse, ex_rsf, ex_try, itr_enu, ex_ret, ex_drop, ex_ite, bnd_assoc, fit_non, fit_bl, fit_int, fit_str, fitL_nil, fitL_cons, eq_ii, eq_ss, eq_bb, List.any_cons, List.any_nil, Bool.or_false, Bool.and_self, Bool.and_true, Bool.true_and, slot0, slotS, ofO_some, some_bnd, pur_bnd, non_bnd, noE_pur, asBl_bl, bnd_ite, if_bl, if_true, if_false, Bool.false_eq_true, Bool.not_true, Bool.not_false, reduceIte, pyAt0, pyAt1, pyAt2, pyAt3, List.getElem?_cons_zero, List.getElem?_cons_succ, u_isStr_non, u_isStr_bl, u_isStr_int, u_isStr_str, u_isStr_tup, u_isStr_lst, u_isStr_own, u_isTup_non, u_isTup_bl, u_isTup_int, u_isTup_str, u_isTup_tup, u_isTup_lst, u_isTup_own, u_isInt_non, u_isInt_bl, u_isInt_int, u_isInt_str, u_isInt_tup, u_isInt_lst, u_isInt_own, u_isBl_non, u_isBl_bl, u_isBl_int, u_isBl_str, u_isBl_tup, u_isBl_lst, u_isBl_own, u_isLst_non, u_isLst_bl, u_isLst_int, u_isLst_str, u_isLst_tup, u_isLst_lst, u_isLst_own, ok_non, ok_bl, ok_int, ok_str, ok_tup, ok_lst, ok_own, ok_ref, u_len_str, u_len_tup, u_len_lst, u_len_own, u_int_int, u_neg_int, u_tuple_tup, u_list_tup, u_tuple_lst, u_list_lst, u_tuple_own, u_list_own, u_rev_tup, u_rev_lst, b_add_int, b_sub_int, b_add_tup, b_add_str, b_add_lst, b_mul_int, b_mod_int, b_fdiv_int, b_eq, b_ne, b_lt_int, b_lt_str, b_le_int, b_le_str, b_gt_int, b_gt_str, b_ge_int, b_ge_str, b_in_tup, b_in_lst, b_nin_tup, b_in_str, b_nin_str, b_is_bl, b_isn_bl, b_ix_tup, b_ix_lst, b_ix_str, eqO_int, eqO_str, eqO_bl, it_tup, it_lst, it_str, intOf_int, zip_tup, zip_lst, rng1_int, rng2_int, cut_tup, cut_lst, set0, setS, bindT1, bindT2, bindP2, ok_pr, sq_lst, sq_own, sq_tup, idx_t, idx_l, idx_o, lam_pur, lam_err, try_pur, try_err, hdR_cons, raise_bnd, enu_tup, sets2, wipe1, wipe2, app_own, frz_own, lstK_lst, isStr_str, enu_lst, map_s, map_n, ofO_n, eqO_int]
    refine hq _ _ ?_ ?_ hs3
    · rw [side_tup, w1, w2]
      show (decide (rows.length = fs.length) && (zipL fs rows).all pairOk && _) = true
      rw [h1, h2]; simp [isBlD]
    · refine sm_tup.mpr ⟨Nat.le_refl 4, fun z hz => ?_⟩
      simp only [List.mem_cons, List.not_mem_nil, or_false] at hz
      rcases hz with rfl | rfl | rfl | rfl
      · exact sm_tup.mpr ⟨by omega, h3⟩
      · exact lab_sm l2
      · exact lab_sm l1
      · rfl
theorem fields_ok : ∀ x ∈ [D.tup [.str [108, 97, 109, 112], .tup [.str [111, 102, 102], .str [111, 110]]], D.tup [.str [115, 105, 122, 101], .tup [.str [108], .str [109], .str [115]]]], isField x = true ∧ sm 4 2 x = true ∧ asOk x = pur x ∧ areFields (.tup [x]) = true ∧ areFields (.tup [.tup [.str [97], .tup [.str [110], .str [121]]], x]) = true := by
  intro x hx
  simp only [List.mem_cons, List.not_mem_nil, or_false] at hx
  rcases hx with rfl | rfl <;> exact ⟨by decide, by decide, rfl, by decide, by decide⟩
theorem r13t (k : Nat) {c : Nat} {Q : D → Store → Prop} (hq : ∀ d s', isSetup d = true → sm 4 4 d = true → Hd c s' → Q d s') (fs : List D) (s : Store) (hF : areFields (.tup fs) = true) (hsm : ∀ d ∈ fs, sm 4 2 d = true) (hs : Hd c s) : wp (bnd (exS (runF T.fns T.C (k + 3)) T.C
    (.cons (.par [6, 7] (.cons (.call 22 (.cons (.var 0) (.cons (.var 3) .nil))) (.cons (.call 22 (.cons (.var 0) (.cons (.var 3) .nil))) .nil)))
(.cons (.set 4 (.call 21 (.cons (.var 0) (.cons (.lst (.cons (.lit (.str [102, 105, 101, 108, 100])) (.cons (.lit (.str [119, 104, 111, 108, 101])) .nil))) .nil))))
(.cons (.set 5 (.tup (.cons (.var 4) (.cons (.call 21 (.cons (.var 0) (.cons (.lst (.cons (.lit (.str [99, 111, 112, 121])) (.cons (.lit (.str [99, 111, 112, 121])) (.cons (.lit (.str [112, 105, 110, 103])) .nil)))) .nil))) .nil))))
(.cons (.ret (.tup (.cons (.var 3) (.cons (.var 6) (.cons (.var 7) (.cons (.bi .add (.var 5) (.tup (.cons (.bi .eq (.call 20 (.cons (.var 0) (.cons (.lit (.int 4)) .nil))) (.lit (.int 0))) (.cons (.bi .gt (.call 20 (.cons (.var 0) (.cons (.lit (.int 3)) .nil))) (.lit (.int 0))) .nil)))) .nil))))))
.nil)))) [some (.ref c), some (.bl true), some (.lst [D.tup [.str [108, 97, 109, 112], .tup [.str [111, 102, 102], .str [111, 110]]], D.tup [.str [115, 105, 122, 101], .tup [.str [108], .str [109], .str [115]]]]), some (.tup fs), none, none, none, none]) fun r => (match r with
      | .nx _ => pur .non
      | .ret d => pur d)) Q s := by
  obtain ⟨_, e, hfs⟩ := fields_of hF
  cases e
  have hlen : fs.length ≤ 2 := (of_decide_eq_true (band hF).1).2
  simp only [ev_var, ev_lit, ev_con, ev_tup, ev_lst, ev_un, ev_bi, ev_ch, ev_not, ev_and, ev_or, ev_ite, ev_cut, ev_call, ev_cel, ev_at0, ev_meth, ev_dct, ev_get2, ev_idx, ev_lam, evL_nil, evL_cons, evO_nil, evO_val, evC_nil, evC_val, itr_val, itr_rng1, itr_rng2, itr_zip, ex_nil, ex_cons, ex_skip, ex_set, ex_own, ex_frz, ex_unp, ex_par, ex_app, ex_put, ex_bad, ex_rse, ex_rsf, ex_try, itr_enu, ex_ret, ex_drop, ex_ite, bnd_assoc, fit_non, fit_bl, fit_int, fit_str, fitL_nil, fitL_cons, eq_ii, eq_ss, eq_bb, List.any_cons, List.any_nil, Bool.or_false, Bool.and_self, Bool.and_true, Bool.true_and, slot0, slotS, ofO_some, some_bnd, pur_bnd, non_bnd, noE_pur, asBl_bl, bnd_ite, if_bl, if_true, if_false, Bool.false_eq_true, Bool.not_true, Bool.not_false, reduceIte, pyAt0, pyAt1, pyAt2, pyAt3, List.getElem?_cons_zero, List.getElem?_cons_succ, u_isStr_non, u_isStr_bl, u_isStr_int, u_isStr_str, u_isStr_tup, u_isStr_lst, u_isStr_own, u_isTup_non, u_isTup_bl, u_isTup_int, u_isTup_str, u_isTup_tup, u_isTup_lst, u_isTup_own, u_isInt_non, u_isInt_bl, u_isInt_int, u_isInt_str, u_isInt_tup, u_isInt_lst, u_isInt_own, u_isBl_non, u_isBl_bl, u_isBl_int, u_isBl_str, u_isBl_tup, u_isBl_lst, u_isBl_own, u_isLst_non, u_isLst_bl, u_isLst_int, u_isLst_str, u_isLst_tup, u_isLst_lst, u_isLst_own, ok_non, ok_bl, ok_int, ok_str, ok_tup, ok_lst, ok_own, ok_ref, u_len_str, u_len_tup, u_len_lst, u_len_own, u_int_int, u_neg_int, u_tuple_tup, u_list_tup, u_tuple_lst, u_list_lst, u_tuple_own, u_list_own, u_rev_tup, u_rev_lst, b_add_int, b_sub_int, b_add_tup, b_add_str, b_add_lst, b_mul_int, b_mod_int, b_fdiv_int, b_eq, b_ne, b_lt_int, b_lt_str, b_le_int, b_le_str, b_gt_int, b_gt_str, b_ge_int, b_ge_str, b_in_tup, b_in_lst, b_nin_tup, b_in_str, b_nin_str, b_is_bl, b_isn_bl, b_ix_tup, b_ix_lst, b_ix_str, eqO_int, eqO_str, eqO_bl, it_tup, it_lst, it_str, intOf_int, zip_tup, zip_lst, rng1_int, rng2_int, cut_tup, cut_lst, set0, setS, bindT1, bindT2, bindP2, ok_pr, sq_lst, sq_own, sq_tup, idx_t, idx_l, idx_o, lam_pur, lam_err, try_pur, try_err, hdR_cons, raise_bnd, enu_tup, sets2, wipe1, wipe2, app_own, frz_own, lstK_lst, isStr_str, enu_lst, map_s, map_n, ofO_n]
  rw [wp_bnd]
  refine r12 k hfs hlen hs fun a s1 ha sa hs1 => ?_
  simp only [ev_var, ev_lit, ev_con, ev_tup, ev_lst, ev_un, ev_bi, ev_ch, ev_not, ev_and, ev_or, ev_ite, ev_cut, ev_call, ev_cel, ev_at0, ev_meth, ev_dct, ev_get2, ev_idx, ev_lam, evL_nil, evL_cons, evO_nil, evO_val, evC_nil, evC_val, itr_val, itr_rng1, itr_rng2, itr_zip, ex_nil, ex_cons, ex_skip, ex_set, ex_own, ex_frz, ex_unp, ex_par, ex_app, ex_put, ex_bad, ex_rse, ex_rsf, ex_try, itr_enu, ex_ret, ex_drop, ex_ite, bnd_assoc, fit_non, fit_bl, fit_int, fit_str, fitL_nil, fitL_cons, eq_ii, eq_ss, eq_bb, List.any_cons, List.any_nil, Bool.or_false, Bool.and_self, Bool.and_true, Bool.true_and, slot0, slotS, ofO_some, some_bnd, pur_bnd, non_bnd, noE_pur, asBl_bl, bnd_ite, if_bl, if_true, if_false, Bool.false_eq_true, Bool.not_true, Bool.not_false, reduceIte, pyAt0, pyAt1, pyAt2, pyAt3, List.getElem?_cons_zero, List.getElem?_cons_succ, u_isStr_non, u_isStr_bl, u_isStr_int, u_isStr_str, u_isStr_tup, u_isStr_lst, u_isStr_own, u_isTup_non, u_isTup_bl, u_isTup_int, u_isTup_str, u_isTup_tup, u_isTup_lst, u_isTup_own, u_isInt_non, u_isInt_bl, u_isInt_int, u_isInt_str, u_isInt_tup, u_isInt_lst, u_isInt_own, u_isBl_non, u_isBl_bl, u_isBl_int, u_isBl_str, u_isBl_tup, u_isBl_lst, u_isBl_own, u_isLst_non, u_isLst_bl, u_isLst_int, u_isLst_str, u_isLst_tup, u_isLst_lst, u_isLst_own, ok_non, ok_bl, ok_int, ok_str, ok_tup, ok_lst, ok_own, ok_ref, u_len_str, u_len_tup, u_len_lst, u_len_own, u_int_int, u_neg_int, u_tuple_tup, u_list_tup, u_tuple_lst, u_list_lst, u_tuple_own, u_list_own, u_rev_tup, u_rev_lst, b_add_int, b_sub_int, b_add_tup, b_add_str, b_add_lst, b_mul_int, b_mod_int, b_fdiv_int, b_eq, b_ne, b_lt_int, b_lt_str, b_le_int, b_le_str, b_gt_int, b_gt_str, b_ge_int, b_ge_str, b_in_tup, b_in_lst, b_nin_tup, b_in_str, b_nin_str, b_is_bl, b_isn_bl, b_ix_tup, b_ix_lst, b_ix_str, eqO_int, eqO_str, eqO_bl, it_tup, it_lst, it_str, intOf_int, zip_tup, zip_lst, rng1_int, rng2_int, cut_tup, cut_lst, set0, setS, bindT1, bindT2, bindP2, ok_pr, sq_lst, sq_own, sq_tup, idx_t, idx_l, idx_o, lam_pur, lam_err, try_pur, try_err, hdR_cons, raise_bnd, enu_tup, sets2, wipe1, wipe2, app_own, frz_own, lstK_lst, isStr_str, enu_lst, map_s, map_n, ofO_n, sm_ok sa]
  rw [wp_bnd]
  refine r12 k hfs hlen hs1 fun b s2 hb sb hs2 => ?_
  simp only [ev_var, ev_lit, ev_con, ev_tup, ev_lst, ev_un, ev_bi, ev_ch, ev_not, ev_and, ev_or, ev_ite, ev_cut, ev_call, ev_cel, ev_at0, ev_meth, ev_dct, ev_get2, ev_idx, ev_lam, evL_nil, evL_cons, evO_nil, evO_val, evC_nil, evC_val, itr_val, itr_rng1, itr_rng2, itr_zip, ex_nil, ex_cons, ex_skip, ex_set, ex_own, ex_frz, ex_unp, ex_par, ex_app, ex_put, ex_bad, ex_rse, ex_rsf, ex_try, itr_enu, ex_ret, ex_drop, ex_ite, bnd_assoc, fit_non, fit_bl, fit_int, fit_str, fitL_nil, fitL_cons, eq_ii, eq_ss, eq_bb, List.any_cons, List.any_nil, Bool.or_false, Bool.and_self, Bool.and_true, Bool.true_and, slot0, slotS, ofO_some, some_bnd, pur_bnd, non_bnd, noE_pur, asBl_bl, bnd_ite, if_bl, if_true, if_false, Bool.false_eq_true, Bool.not_true, Bool.not_false, reduceIte, pyAt0, pyAt1, pyAt2, pyAt3, List.getElem?_cons_zero, List.getElem?_cons_succ, u_isStr_non, u_isStr_bl, u_isStr_int, u_isStr_str, u_isStr_tup, u_isStr_lst, u_isStr_own, u_isTup_non, u_isTup_bl, u_isTup_int, u_isTup_str, u_isTup_tup, u_isTup_lst, u_isTup_own, u_isInt_non, u_isInt_bl, u_isInt_int, u_isInt_str, u_isInt_tup, u_isInt_lst, u_isInt_own, u_isBl_non, u_isBl_bl, u_isBl_int, u_isBl_str, u_isBl_tup, u_isBl_lst, u_isBl_own, u_isLst_non, u_isLst_bl, u_isLst_int, u_isLst_str, u_isLst_tup, u_isLst_lst, u_isLst_own, ok_non, ok_bl, ok_int, ok_str, ok_tup, ok_lst, ok_own, ok_ref, u_len_str, u_len_tup, u_len_lst, u_len_own, u_int_int, u_neg_int, u_tuple_tup, u_list_tup, u_tuple_lst, u_list_lst, u_tuple_own, u_list_own, u_rev_tup, u_rev_lst, b_add_int, b_sub_int, b_add_tup, b_add_str, b_add_lst, b_mul_int, b_mod_int, b_fdiv_int, b_eq, b_ne, b_lt_int, b_lt_str, b_le_int, b_le_str, b_gt_int, b_gt_str, b_ge_int, b_ge_str, b_in_tup, b_in_lst, b_nin_tup, b_in_str, b_nin_str, b_is_bl, b_isn_bl, b_ix_tup, b_ix_lst, b_ix_str, eqO_int, eqO_str, eqO_bl, it_tup, it_lst, it_str, intOf_int, zip_tup, zip_lst, rng1_int, rng2_int, cut_tup, cut_lst, set0, setS, bindT1, bindT2, bindP2, ok_pr, sq_lst, sq_own, sq_tup, idx_t, idx_l, idx_o, lam_pur, lam_err, try_pur, try_err, hdR_cons, raise_bnd, enu_tup, sets2, wipe1, wipe2, app_own, frz_own, lstK_lst, isStr_str, enu_lst, map_s, map_n, ofO_n, sm_ok sb, List.length_cons, List.length_nil, sets2]
  rw [wp_bnd]
  refine r11 (k + 1) (l := scopes) (.inl rfl) hs2 (by decide) (by decide) (fun x hx => lab_ok (all_in (p := isLabel) rfl hx)) fun x s3 hx hs3 => ?_
  have w1 : isWord scopes x = true := all_in (p := isWord scopes) (by decide) hx
  have l1 : isLabel x = true := all_in (p := isLabel) rfl hx
  simp only [ev_var, ev_lit, ev_con, ev_tup, ev_lst, ev_un, ev_bi, ev_ch, ev_not, ev_and, ev_or, ev_ite, ev_cut, ev_call, ev_cel, ev_at0, ev_meth, ev_dct, ev_get2, ev_idx, ev_lam, evL_nil, evL_cons, evO_nil, evO_val, evC_nil, evC_val, itr_val, itr_rng1, itr_rng2, itr_zip, ex_nil, ex_cons, ex_skip, ex_set, ex_own, ex_frz, ex_unp, ex_par, ex_app, ex_put, ex_bad, ex_rse, ex_rsf, ex_try, itr_enu, ex_ret, ex_drop, ex_ite, bnd_assoc, fit_non, fit_bl, fit_int, fit_str, fitL_nil, fitL_cons, eq_ii, eq_ss, eq_bb, List.any_cons, List.any_nil, Bool.or_false, Bool.and_self, Bool.and_true, Bool.true_and, slot0, slotS, ofO_some, some_bnd, pur_bnd, non_bnd, noE_pur, asBl_bl, bnd_ite, if_bl, if_true, if_false, Bool.false_eq_true, Bool.not_true, Bool.not_false, reduceIte, pyAt0, pyAt1, pyAt2, pyAt3, List.getElem?_cons_zero, List.getElem?_cons_succ, u_isStr_non, u_isStr_bl, u_isStr_int, u_isStr_str, u_isStr_tup, u_isStr_lst, u_isStr_own, u_isTup_non, u_isTup_bl, u_isTup_int, u_isTup_str, u_isTup_tup, u_isTup_lst, u_isTup_own, u_isInt_non, u_isInt_bl, u_isInt_int, u_isInt_str, u_isInt_tup, u_isInt_lst, u_isInt_own, u_isBl_non, u_isBl_bl, u_isBl_int, u_isBl_str, u_isBl_tup, u_isBl_lst, u_isBl_own, u_isLst_non, u_isLst_bl, u_isLst_int, u_isLst_str, u_isLst_tup, u_isLst_lst, u_isLst_own, ok_non, ok_bl, ok_int, ok_str, ok_tup, ok_lst, ok_own, ok_ref, u_len_str, u_len_tup, u_len_lst, u_len_own, u_int_int, u_neg_int, u_tuple_tup, u_list_tup, u_tuple_lst, u_list_lst, u_tuple_own, u_list_own, u_rev_tup, u_rev_lst, b_add_int, b_sub_int, b_add_tup, b_add_str, b_add_lst, b_mul_int, b_mod_int, b_fdiv_int, b_eq, b_ne, b_lt_int, b_lt_str, b_le_int, b_le_str, b_gt_int, b_gt_str, b_ge_int, b_ge_str, b_in_tup, b_in_lst, b_nin_tup, b_in_str, b_nin_str, b_is_bl, b_isn_bl, b_ix_tup, b_ix_lst, b_ix_str, eqO_int, eqO_str, eqO_bl, it_tup, it_lst, it_str, intOf_int, zip_tup, zip_lst, rng1_int, rng2_int, cut_tup, cut_lst, set0, setS, bindT1, bindT2, bindP2, ok_pr, sq_lst, sq_own, sq_tup, idx_t, idx_l, idx_o, lam_pur, lam_err, try_pur, try_err, hdR_cons, raise_bnd, enu_tup, sets2, wipe1, wipe2, app_own, frz_own, lstK_lst, isStr_str, enu_lst, map_s, map_n, ofO_n, lab_ok l1]
  rw [wp_bnd]
  refine r11 (k + 1) (l := [.str [99, 111, 112, 121], .str [99, 111, 112, 121], .str [112, 105, 110, 103]]) (.inl rfl) hs3 (by decide) (by decide) (fun x hx => lab_ok (all_in (p := isLabel) rfl hx)) fun y s4 hy hs4 => ?_
  have w2 : isWord kinds y = true := all_in (p := isWord kinds) (by decide) hy
  have l2 : isLabel y = true := all_in (p := isLabel) rfl hy
  simp only [ev_var, ev_lit, ev_con, ev_tup, ev_lst, ev_un, ev_bi, ev_ch, ev_not, ev_and, ev_or, ev_ite, ev_cut, ev_call, ev_cel, ev_at0, ev_meth, ev_dct, ev_get2, ev_idx, ev_lam, evL_nil, evL_cons, evO_nil, evO_val, evC_nil, evC_val, itr_val, itr_rng1, itr_rng2, itr_zip, ex_nil, ex_cons, ex_skip, ex_set, ex_own, ex_frz, ex_unp, ex_par, ex_app, ex_put, ex_bad, ex_rse, ex_rsf, ex_try, itr_enu, ex_ret, ex_drop, ex_ite, bnd_assoc, fit_non, fit_bl, fit_int, fit_str, fitL_nil, fitL_cons, eq_ii, eq_ss, eq_bb, List.any_cons, List.any_nil, Bool.or_false, Bool.and_self, Bool.and_true, Bool.true_and, slot0, slotS, ofO_some, some_bnd, pur_bnd, non_bnd, noE_pur, asBl_bl, bnd_ite, if_bl, if_true, if_false, Bool.false_eq_true, Bool.not_true, Bool.not_false, reduceIte, pyAt0, pyAt1, pyAt2, pyAt3, List.getElem?_cons_zero, List.getElem?_cons_succ, u_isStr_non, u_isStr_bl, u_isStr_int, u_isStr_str, u_isStr_tup, u_isStr_lst, u_isStr_own, u_isTup_non, u_isTup_bl, u_isTup_int, u_isTup_str, u_isTup_tup, u_isTup_lst, u_isTup_own, u_isInt_non, u_isInt_bl, u_isInt_int, u_isInt_str, u_isInt_tup, u_isInt_lst, u_isInt_own, u_isBl_non, u_isBl_bl, u_isBl_int, u_isBl_str, u_isBl_tup, u_isBl_lst, u_isBl_own, u_isLst_non, u_isLst_bl, u_isLst_int, u_isLst_str, u_isLst_tup, u_isLst_lst, u_isLst_own, ok_non, ok_bl, ok_int, ok_str, ok_tup, ok_lst, ok_own, ok_ref, u_len_str, u_len_tup, u_len_lst, u_len_own, u_int_int, u_neg_int, u_tuple_tup, u_list_tup, u_tuple_lst, u_list_lst, u_tuple_own, u_list_own, u_rev_tup, u_rev_lst, b_add_int, b_sub_int, b_add_tup, b_add_str, b_add_lst, b_mul_int, b_mod_int, b_fdiv_int, b_eq, b_ne, b_lt_int, b_lt_str, b_le_int, b_le_str, b_gt_int, b_gt_str, b_ge_int, b_ge_str, b_in_tup, b_in_lst, b_nin_tup, b_in_str, b_nin_str, b_is_bl, b_isn_bl, b_ix_tup, b_ix_lst, b_ix_str, eqO_int, eqO_str, eqO_bl, it_tup, it_lst, it_str, intOf_int, zip_tup, zip_lst, rng1_int, rng2_int, cut_tup, cut_lst, set0, setS, bindT1, bindT2, bindP2, ok_pr, sq_lst, sq_own, sq_tup, idx_t, idx_l, idx_o, lam_pur, lam_err, try_pur, try_err, hdR_cons, raise_bnd, enu_tup, sets2, wipe1, wipe2, app_own, frz_own, lstK_lst, isStr_str, enu_lst, map_s, map_n, ofO_n, lab_ok l2, sm_ok sa, sm_ok sb]
  rw [wp_bnd]
  refine r10 (k + 2) hs4 (by omega) (by omega) fun r1 s5 _ _ hs5 => ?_
  simp only [ev_var, ev_lit, ev_con, ev_tup, ev_lst, ev_un, ev_bi, ev_ch, ev_not, ev_and, ev_or, ev_ite, ev_cut, ev_call, ev_cel, ev_at0, ev_meth, ev_dct, ev_get2, ev_idx, ev_lam, evL_nil, evL_cons, evO_nil, evO_val, evC_nil, evC_val, itr_val, itr_rng1, itr_rng2, itr_zip, ex_nil, ex_cons, ex_skip, ex_set, ex_own, ex_frz, ex_unp, ex_par, ex_app, ex_put, ex_bad, ex_rse, ex_rsf, ex_try, itr_enu, ex_ret, ex_drop, ex_ite, bnd_assoc, fit_non, fit_bl, fit_int, fit_str, fitL_nil, fitL_cons, eq_ii, eq_ss, eq_bb, List.any_cons, List.any_nil, Bool.or_false, Bool.and_self, Bool.and_true, Bool.true_and, slot0, slotS, ofO_some, some_bnd, pur_bnd, non_bnd, noE_pur, asBl_bl, bnd_ite, if_bl, if_true, if_false, Bool.false_eq_true, Bool.not_true, Bool.not_false, reduceIte, pyAt0, pyAt1, pyAt2, pyAt3, List.getElem?_cons_zero, List.getElem?_cons_succ, u_isStr_non, u_isStr_bl, u_isStr_int, u_isStr_str, u_isStr_tup, u_isStr_lst, u_isStr_own, u_isTup_non, u_isTup_bl, u_isTup_int, u_isTup_str, u_isTup_tup, u_isTup_lst, u_isTup_own, u_isInt_non, u_isInt_bl, u_isInt_int, u_isInt_str, u_isInt_tup, u_isInt_lst, u_isInt_own, u_isBl_non, u_isBl_bl, u_isBl_int, u_isBl_str, u_isBl_tup, u_isBl_lst, u_isBl_own, u_isLst_non, u_isLst_bl, u_isLst_int, u_isLst_str, u_isLst_tup, u_isLst_lst, u_isLst_own, ok_non, ok_bl, ok_int, ok_str, ok_tup, ok_lst, ok_own, ok_ref, u_len_str, u_len_tup, u_len_lst, u_len_own, u_int_int, u_neg_int, u_tuple_tup, u_list_tup, u_tuple_lst, u_list_lst, u_tuple_own, u_list_own, u_rev_tup, u_rev_lst, b_add_int, b_sub_int, b_add_tup, b_add_str, b_add_lst, b_mul_int, b_mod_int, b_fdiv_int, b_eq, b_ne, b_lt_int, b_lt_str, b_le_int, b_le_str, b_gt_int, b_gt_str, b_ge_int, b_ge_str, b_in_tup, b_in_lst, b_nin_tup, b_in_str, b_nin_str, b_is_bl, b_isn_bl, b_ix_tup, b_ix_lst, b_ix_str, eqO_int, eqO_str, eqO_bl, it_tup, it_lst, it_str, intOf_int, zip_tup, zip_lst, rng1_int, rng2_int, cut_tup, cut_lst, set0, setS, bindT1, bindT2, bindP2, ok_pr, sq_lst, sq_own, sq_tup, idx_t, idx_l, idx_o, lam_pur, lam_err, try_pur, try_err, hdR_cons, raise_bnd, enu_tup, sets2, wipe1, wipe2, app_own, frz_own, lstK_lst, isStr_str, enu_lst, map_s, map_n, ofO_n, eqO_int]
  rw [wp_bnd]
  refine r10 (k + 2) hs5 (by omega) (by omega) fun r2 s6 _ _ hs6 => ?_
  have hz : (([x, y] : List D).length + [D.bl (r1 == 0), D.bl (decide (0 < r2))].length ≤ lim) = True := eq_true (by show 4 ≤ lim; decide)
  simp only [ev_var, ev_lit, ev_con, ev_tup, ev_lst, ev_un, ev_bi, ev_ch, ev_not, ev_and, ev_or, ev_ite, ev_cut, ev_call, ev_cel, ev_at0, ev_meth, ev_dct, ev_get2, ev_idx, ev_lam, evL_nil, evL_cons, evO_nil, evO_val, evC_nil, evC_val, itr_val, itr_rng1, itr_rng2, itr_zip, ex_nil, ex_cons, ex_skip, ex_set, ex_own, ex_frz, ex_unp, ex_par, ex_app, ex_put, ex_bad, ex_rse, ex_rsf, ex_try, itr_enu, ex_ret, ex_drop, ex_ite, bnd_assoc, fit_non, fit_bl, fit_int, fit_str, fitL_nil, fitL_cons, eq_ii, eq_ss, eq_bb, List.any_cons, List.any_nil, Bool.or_false, Bool.and_self, Bool.and_true, Bool.true_and, slot0, slotS, ofO_some, some_bnd, pur_bnd, non_bnd, noE_pur, asBl_bl, bnd_ite, if_bl, if_true, if_false, Bool.false_eq_true, Bool.not_true, Bool.not_false, reduceIte, pyAt0, pyAt1, pyAt2, pyAt3, List.getElem?_cons_zero, List.getElem?_cons_succ, u_isStr_non, u_isStr_bl, u_isStr_int, u_isStr_str, u_isStr_tup, u_isStr_lst, u_isStr_own, u_isTup_non, u_isTup_bl, u_isTup_int, u_isTup_str, u_isTup_tup, u_isTup_lst, u_isTup_own, u_isInt_non, u_isInt_bl, u_isInt_int, u_isInt_str, u_isInt_tup, u_isInt_lst, u_isInt_own, u_isBl_non, u_isBl_bl, u_isBl_int, u_isBl_str, u_isBl_tup, u_isBl_lst, u_isBl_own, u_isLst_non, u_isLst_bl, u_isLst_int, u_isLst_str, u_isLst_tup, u_isLst_lst, u_isLst_own, ok_non, ok_bl, ok_int, ok_str, ok_tup, ok_lst, ok_own, ok_ref, u_len_str, u_len_tup, u_len_lst, u_len_own, u_int_int, u_neg_int, u_tuple_tup, u_list_tup, u_tuple_lst, u_list_lst, u_tuple_own, u_list_own, u_rev_tup, u_rev_lst, b_add_int, b_sub_int, b_add_tup, b_add_str, b_add_lst, b_mul_int, b_mod_int, b_fdiv_int, b_eq, b_ne, b_lt_int, b_lt_str, b_le_int, b_le_str, b_gt_int, b_gt_str, b_ge_int, b_ge_str, b_in_tup, b_in_lst, b_nin_tup, b_in_str, b_nin_str, b_is_bl, b_isn_bl, b_ix_tup, b_ix_lst, b_ix_str, eqO_int, eqO_str, eqO_bl, it_tup, it_lst, it_str, intOf_int, zip_tup, zip_lst, rng1_int, rng2_int, cut_tup, cut_lst, set0, setS, bindT1, bindT2, bindP2, ok_pr, sq_lst, sq_own, sq_tup, idx_t, idx_l, idx_o, lam_pur, lam_err, try_pur, try_err, hdR_cons, raise_bnd, enu_tup, sets2, wipe1, wipe2, app_own, frz_own, lstK_lst, isStr_str, enu_lst, map_s, map_n, ofO_n, hz]
  refine hq _ _ ?_ ?_ hs6
  · show isSetup (.tup [.tup fs, a, b, .tup [x, y, .bl _, .bl _]]) = true
    rw [setup_tup, hF, way_tup, w1, w2]
    show (true && (true && (isSide fs a && isSide fs b))) = true
    rw [ha, hb]; rfl
  · refine sm_tup.mpr ⟨Nat.le_refl 4, fun z hz => ?_⟩
    simp only [List.mem_cons, List.not_mem_nil, or_false] at hz
    rcases hz with rfl | rfl | rfl | rfl
    · exact sm_tup.mpr ⟨by omega, hsm⟩
    · exact sa
    · exact sb
    · refine sm_tup.mpr ⟨Nat.le_refl 4, fun z hz => ?_⟩
      simp only [List.cons_append, List.nil_append, List.mem_cons, List.not_mem_nil, or_false] at hz
      rcases hz with rfl | rfl | rfl | rfl
      · exact lab_sm l1
      · exact lab_sm l2
      · rfl
      · rfl
theorem r13 (k : Nat) {c : Nat} {s : Store} {Q : D → Store → Prop} (hs : Hd c s) (hq : ∀ d s', isSetup d = true → sm 4 4 d = true → Hd c s' → Q d s') : wp (F (k + 4) 23 [.ref c, .bl true]) Q s := by
  rw [F, runF_at (fd := f23) rfl rfl]
  show wp (bnd (exS _ _ b23 [some (.ref c), some (.bl true), none, none, none, none, none, none]) _) Q s
  unfold b23
  simp only [ev_var, ev_lit, ev_con, ev_tup, ev_lst, ev_un, ev_bi, ev_ch, ev_not, ev_and, ev_or, ev_ite, ev_cut, ev_call, ev_cel, ev_at0, ev_meth, ev_dct, ev_get2, ev_idx, ev_lam, evL_nil, evL_cons, evO_nil, evO_val, evC_nil, evC_val, itr_val, itr_rng1, itr_rng2, itr_zip, ex_nil, ex_cons, ex_skip, ex_set, ex_own, ex_frz, ex_unp, ex_par, ex_app, ex_put, ex_bad, ex_rse, ex_rsf, ex_try, itr_enu, ex_ret, ex_drop, ex_ite, bnd_assoc, fit_non, fit_bl, fit_int, fit_str, fitL_nil, fitL_cons, eq_ii, eq_ss, eq_bb, List.any_cons, List.any_nil, Bool.or_false, Bool.and_self, Bool.and_true, Bool.true_and, slot0, slotS, ofO_some, some_bnd, pur_bnd, non_bnd, noE_pur, asBl_bl, bnd_ite, if_bl, if_true, if_false, Bool.false_eq_true, Bool.not_true, Bool.not_false, reduceIte, pyAt0, pyAt1, pyAt2, pyAt3, List.getElem?_cons_zero, List.getElem?_cons_succ, u_isStr_non, u_isStr_bl, u_isStr_int, u_isStr_str, u_isStr_tup, u_isStr_lst, u_isStr_own, u_isTup_non, u_isTup_bl, u_isTup_int, u_isTup_str, u_isTup_tup, u_isTup_lst, u_isTup_own, u_isInt_non, u_isInt_bl, u_isInt_int, u_isInt_str, u_isInt_tup, u_isInt_lst, u_isInt_own, u_isBl_non, u_isBl_bl, u_isBl_int, u_isBl_str, u_isBl_tup, u_isBl_lst, u_isBl_own, u_isLst_non, u_isLst_bl, u_isLst_int, u_isLst_str, u_isLst_tup, u_isLst_lst, u_isLst_own, ok_non, ok_bl, ok_int, ok_str, ok_tup, ok_lst, ok_own, ok_ref, u_len_str, u_len_tup, u_len_lst, u_len_own, u_int_int, u_neg_int, u_tuple_tup, u_list_tup, u_tuple_lst, u_list_lst, u_tuple_own, u_list_own, u_rev_tup, u_rev_lst, b_add_int, b_sub_int, b_add_tup, b_add_str, b_add_lst, b_mul_int, b_mod_int, b_fdiv_int, b_eq, b_ne, b_lt_int, b_lt_str, b_le_int, b_le_str, b_gt_int, b_gt_str, b_ge_int, b_ge_str, b_in_tup, b_in_lst, b_nin_tup, b_in_str, b_nin_str, b_is_bl, b_isn_bl, b_ix_tup, b_ix_lst, b_ix_str, eqO_int, eqO_str, eqO_bl, it_tup, it_lst, it_str, intOf_int, zip_tup, zip_lst, rng1_int, rng2_int, cut_tup, cut_lst, set0, setS, bindT1, bindT2, bindP2, ok_pr, sq_lst, sq_own, sq_tup, idx_t, idx_l, idx_o, lam_pur, lam_err, try_pur, try_err, hdR_cons, raise_bnd, enu_tup, sets2, wipe1, wipe2, app_own, frz_own, lstK_lst, isStr_str, enu_lst, map_s, map_n, ofO_n]
  rw [wp_bnd]
  refine r11 (k + 1) (.inl rfl) hs (by decide) (by decide) (fun x hx => (fields_ok x hx).2.2.1) fun x s1 hx hs1 => ?_
  obtain ⟨x1, x2, x3, x4, x5⟩ := fields_ok x hx
  simp only [ev_var, ev_lit, ev_con, ev_tup, ev_lst, ev_un, ev_bi, ev_ch, ev_not, ev_and, ev_or, ev_ite, ev_cut, ev_call, ev_cel, ev_at0, ev_meth, ev_dct, ev_get2, ev_idx, ev_lam, evL_nil, evL_cons, evO_nil, evO_val, evC_nil, evC_val, itr_val, itr_rng1, itr_rng2, itr_zip, ex_nil, ex_cons, ex_skip, ex_set, ex_own, ex_frz, ex_unp, ex_par, ex_app, ex_put, ex_bad, ex_rse, ex_rsf, ex_try, itr_enu, ex_ret, ex_drop, ex_ite, bnd_assoc, fit_non, fit_bl, fit_int, fit_str, fitL_nil, fitL_cons, eq_ii, eq_ss, eq_bb, List.any_cons, List.any_nil, Bool.or_false, Bool.and_self, Bool.and_true, Bool.true_and, slot0, slotS, ofO_some, some_bnd, pur_bnd, non_bnd, noE_pur, asBl_bl, bnd_ite, if_bl, if_true, if_false, Bool.false_eq_true, Bool.not_true, Bool.not_false, reduceIte, pyAt0, pyAt1, pyAt2, pyAt3, List.getElem?_cons_zero, List.getElem?_cons_succ, u_isStr_non, u_isStr_bl, u_isStr_int, u_isStr_str, u_isStr_tup, u_isStr_lst, u_isStr_own, u_isTup_non, u_isTup_bl, u_isTup_int, u_isTup_str, u_isTup_tup, u_isTup_lst, u_isTup_own, u_isInt_non, u_isInt_bl, u_isInt_int, u_isInt_str, u_isInt_tup, u_isInt_lst, u_isInt_own, u_isBl_non, u_isBl_bl, u_isBl_int, u_isBl_str, u_isBl_tup, u_isBl_lst, u_isBl_own, u_isLst_non, u_isLst_bl, u_isLst_int, u_isLst_str, u_isLst_tup, u_isLst_lst, u_isLst_own, ok_non, ok_bl, ok_int, ok_str, ok_tup, ok_lst, ok_own, ok_ref, u_len_str, u_len_tup, u_len_lst, u_len_own, u_int_int, u_neg_int, u_tuple_tup, u_list_tup, u_tuple_lst, u_list_lst, u_tuple_own, u_list_own, u_rev_tup, u_rev_lst, b_add_int, b_sub_int, b_add_tup, b_add_str, b_add_lst, b_mul_int, b_mod_int, b_fdiv_int, b_eq, b_ne, b_lt_int, b_lt_str, b_le_int, b_le_str, b_gt_int, b_gt_str, b_ge_int, b_ge_str, b_in_tup, b_in_lst, b_nin_tup, b_in_str, b_nin_str, b_is_bl, b_isn_bl, b_ix_tup, b_ix_lst, b_ix_str, eqO_int, eqO_str, eqO_bl, it_tup, it_lst, it_str, intOf_int, zip_tup, zip_lst, rng1_int, rng2_int, cut_tup, cut_lst, set0, setS, bindT1, bindT2, bindP2, ok_pr, sq_lst, sq_own, sq_tup, idx_t, idx_l, idx_o, lam_pur, lam_err, try_pur, try_err, hdR_cons, raise_bnd, enu_tup, sets2, wipe1, wipe2, app_own, frz_own, lstK_lst, isStr_str, enu_lst, map_s, map_n, ofO_n, x3]
  rw [wp_bnd]
  refine r10 (k + 2) hs1 (by omega) (by omega) fun r s2 _ _ hs2 => ?_
  simp only [ev_var, ev_lit, ev_con, ev_tup, ev_lst, ev_un, ev_bi, ev_ch, ev_not, ev_and, ev_or, ev_ite, ev_cut, ev_call, ev_cel, ev_at0, ev_meth, ev_dct, ev_get2, ev_idx, ev_lam, evL_nil, evL_cons, evO_nil, evO_val, evC_nil, evC_val, itr_val, itr_rng1, itr_rng2, itr_zip, ex_nil, ex_cons, ex_skip, ex_set, ex_own, ex_frz, ex_unp, ex_par, ex_app, ex_put, ex_bad, ex_rse, ex_rsf, ex_try, itr_enu, ex_ret, ex_drop, ex_ite, bnd_assoc, fit_non, fit_bl, fit_int, fit_str, fitL_nil, fitL_cons, eq_ii, eq_ss, eq_bb, List.any_cons, List.any_nil, Bool.or_false, Bool.and_self, Bool.and_true, Bool.true_and, slot0, slotS, ofO_some, some_bnd, pur_bnd, non_bnd, noE_pur, asBl_bl, bnd_ite, if_bl, if_true, if_false, Bool.false_eq_true, Bool.not_true, Bool.not_false, reduceIte, pyAt0, pyAt1, pyAt2, pyAt3, List.getElem?_cons_zero, List.getElem?_cons_succ, u_isStr_non, u_isStr_bl, u_isStr_int, u_isStr_str, u_isStr_tup, u_isStr_lst, u_isStr_own, u_isTup_non, u_isTup_bl, u_isTup_int, u_isTup_str, u_isTup_tup, u_isTup_lst, u_isTup_own, u_isInt_non, u_isInt_bl, u_isInt_int, u_isInt_str, u_isInt_tup, u_isInt_lst, u_isInt_own, u_isBl_non, u_isBl_bl, u_isBl_int, u_isBl_str, u_isBl_tup, u_isBl_lst, u_isBl_own, u_isLst_non, u_isLst_bl, u_isLst_int, u_isLst_str, u_isLst_tup, u_isLst_lst, u_isLst_own, ok_non, ok_bl, ok_int, ok_str, ok_tup, ok_lst, ok_own, ok_ref, u_len_str, u_len_tup, u_len_lst, u_len_own, u_int_int, u_neg_int, u_tuple_tup, u_list_tup, u_tuple_lst, u_list_lst, u_tuple_own, u_list_own, u_rev_tup, u_rev_lst, b_add_int, b_sub_int, b_add_tup, b_add_str, b_add_lst, b_mul_int, b_mod_int, b_fdiv_int, b_eq, b_ne, b_lt_int, b_lt_str, b_le_int, b_le_str, b_gt_int, b_gt_str, b_ge_int, b_ge_str, b_in_tup, b_in_lst, b_nin_tup, b_in_str, b_nin_str, b_is_bl, b_isn_bl, b_ix_tup, b_ix_lst, b_ix_str, eqO_int, eqO_str, eqO_bl, it_tup, it_lst, it_str, intOf_int, zip_tup, zip_lst, rng1_int, rng2_int, cut_tup, cut_lst, set0, setS, bindT1, bindT2, bindP2, ok_pr, sq_lst, sq_own, sq_tup, idx_t, idx_l, idx_o, lam_pur, lam_err, try_pur, try_err, hdR_cons, raise_bnd, enu_tup, sets2, wipe1, wipe2, app_own, frz_own, lstK_lst, isStr_str, enu_lst, map_s, map_n, ofO_n, eqO_int]
  by_cases hr : (r == 0) = true
  · simp only [hr, ev_var, ev_lit, ev_con, ev_tup, ev_lst, ev_un, ev_bi, ev_ch, ev_not, ev_and, ev_or, ev_ite, ev_cut, ev_call, ev_cel, ev_at0, ev_meth, ev_dct, ev_get2, ev_idx, ev_lam, evL_nil, evL_cons, evO_nil, evO_val, evC_nil, evC_val, itr_val, itr_rng1, itr_rng2, itr_zip, ex_nil, ex_cons, ex_skip, ex_set, ex_own, ex_frz, ex_unp, ex_par, ex_app, ex_put, ex_bad, ex_rse, ex_rsf, ex_try, itr_enu, ex_ret, ex_drop, ex_ite, bnd_assoc, fit_non, fit_bl, fit_int, fit_str, fitL_nil, fitL_cons, eq_ii, eq_ss, eq_bb, List.any_cons, List.any_nil, Bool.or_false, Bool.and_self, Bool.and_true, Bool.true_and, slot0, slotS, ofO_some, some_bnd, pur_bnd, non_bnd, noE_pur, asBl_bl, bnd_ite, if_bl, if_true, if_false, Bool.false_eq_true, Bool.not_true, Bool.not_false, reduceIte, pyAt0, pyAt1, pyAt2, pyAt3, List.getElem?_cons_zero, List.getElem?_cons_succ, u_isStr_non, u_isStr_bl, u_isStr_int, u_isStr_str, u_isStr_tup, u_isStr_lst, u_isStr_own, u_isTup_non, u_isTup_bl, u_isTup_int, u_isTup_str, u_isTup_tup, u_isTup_lst, u_isTup_own, u_isInt_non, u_isInt_bl, u_isInt_int, u_isInt_str, u_isInt_tup, u_isInt_lst, u_isInt_own, u_isBl_non, u_isBl_bl, u_isBl_int, u_isBl_str, u_isBl_tup, u_isBl_lst, u_isBl_own, u_isLst_non, u_isLst_bl, u_isLst_int, u_isLst_str, u_isLst_tup, u_isLst_lst, u_isLst_own, ok_non, ok_bl, ok_int, ok_str, ok_tup, ok_lst, ok_own, ok_ref, u_len_str, u_len_tup, u_len_lst, u_len_own, u_int_int, u_neg_int, u_tuple_tup, u_list_tup, u_tuple_lst, u_list_lst, u_tuple_own, u_list_own, u_rev_tup, u_rev_lst, b_add_int, b_sub_int, b_add_tup, b_add_str, b_add_lst, b_mul_int, b_mod_int, b_fdiv_int, b_eq, b_ne, b_lt_int, b_lt_str, b_le_int, b_le_str, b_gt_int, b_gt_str, b_ge_int, b_ge_str, b_in_tup, b_in_lst, b_nin_tup, b_in_str, b_nin_str, b_is_bl, b_isn_bl, b_ix_tup, b_ix_lst, b_ix_str, eqO_int, eqO_str, eqO_bl, it_tup, it_lst, it_str, intOf_int, zip_tup, zip_lst, rng1_int, rng2_int, cut_tup, cut_lst, set0, setS, bindT1, bindT2, bindP2, ok_pr, sq_lst, sq_own, sq_tup, idx_t, idx_l, idx_o, lam_pur, lam_err, try_pur, try_err, hdR_cons, raise_bnd, enu_tup, sets2, wipe1, wipe2, app_own, frz_own, lstK_lst, isStr_str, enu_lst, map_s, map_n, ofO_n]
    rw [wp_bnd]
    refine r11 (k + 1) (.inl rfl) hs2 (by decide) (by decide) (fun x hx => (fields_ok x hx).2.2.1) fun x s1 hx hs1 => ?_
    obtain ⟨x1, x2, x3, x4, x5⟩ := fields_ok x hx
    simp only [ev_var, ev_lit, ev_con, ev_tup, ev_lst, ev_un, ev_bi, ev_ch, ev_not, ev_and, ev_or, ev_ite, ev_cut, ev_call, ev_cel, ev_at0, ev_meth, ev_dct, ev_get2, ev_idx, ev_lam, evL_nil, evL_cons, evO_nil, evO_val, evC_nil, evC_val, itr_val, itr_rng1, itr_rng2, itr_zip, ex_nil, ex_cons, ex_skip, ex_set, ex_own, ex_frz, ex_unp, ex_par, ex_app, ex_put, ex_bad, ex_rse, ex_rsf, ex_try, itr_enu, ex_ret, ex_drop, ex_ite, bnd_assoc, fit_non, fit_bl, fit_int, fit_str, fitL_nil, fitL_cons, eq_ii, eq_ss, eq_bb, List.any_cons, List.any_nil, Bool.or_false, Bool.and_self, Bool.and_true, Bool.true_and, slot0, slotS, ofO_some, some_bnd, pur_bnd, non_bnd, noE_pur, asBl_bl, bnd_ite, if_bl, if_true, if_false, Bool.false_eq_true, Bool.not_true, Bool.not_false, reduceIte, pyAt0, pyAt1, pyAt2, pyAt3, List.getElem?_cons_zero, List.getElem?_cons_succ, u_isStr_non, u_isStr_bl, u_isStr_int, u_isStr_str, u_isStr_tup, u_isStr_lst, u_isStr_own, u_isTup_non, u_isTup_bl, u_isTup_int, u_isTup_str, u_isTup_tup, u_isTup_lst, u_isTup_own, u_isInt_non, u_isInt_bl, u_isInt_int, u_isInt_str, u_isInt_tup, u_isInt_lst, u_isInt_own, u_isBl_non, u_isBl_bl, u_isBl_int, u_isBl_str, u_isBl_tup, u_isBl_lst, u_isBl_own, u_isLst_non, u_isLst_bl, u_isLst_int, u_isLst_str, u_isLst_tup, u_isLst_lst, u_isLst_own, ok_non, ok_bl, ok_int, ok_str, ok_tup, ok_lst, ok_own, ok_ref, u_len_str, u_len_tup, u_len_lst, u_len_own, u_int_int, u_neg_int, u_tuple_tup, u_list_tup, u_tuple_lst, u_list_lst, u_tuple_own, u_list_own, u_rev_tup, u_rev_lst, b_add_int, b_sub_int, b_add_tup, b_add_str, b_add_lst, b_mul_int, b_mod_int, b_fdiv_int, b_eq, b_ne, b_lt_int, b_lt_str, b_le_int, b_le_str, b_gt_int, b_gt_str, b_ge_int, b_ge_str, b_in_tup, b_in_lst, b_nin_tup, b_in_str, b_nin_str, b_is_bl, b_isn_bl, b_ix_tup, b_ix_lst, b_ix_str, eqO_int, eqO_str, eqO_bl, it_tup, it_lst, it_str, intOf_int, zip_tup, zip_lst, rng1_int, rng2_int, cut_tup, cut_lst, set0, setS, bindT1, bindT2, bindP2, ok_pr, sq_lst, sq_own, sq_tup, idx_t, idx_l, idx_o, lam_pur, lam_err, try_pur, try_err, hdR_cons, raise_bnd, enu_tup, sets2, wipe1, wipe2, app_own, frz_own, lstK_lst, isStr_str, enu_lst, map_s, map_n, ofO_n, x3]
    have := r13t k hq _ _ x5 (fun d hd => by
      simp only [List.mem_cons, List.not_mem_nil, or_false] at hd
      rcases hd with rfl | rfl
      · rfl
      · exact x2) hs1
    simp only [ev_var, ev_lit, ev_con, ev_tup, ev_lst, ev_un, ev_bi, ev_ch, ev_not, ev_and, ev_or, ev_ite, ev_cut, ev_call, ev_cel, ev_at0, ev_meth, ev_dct, ev_get2, ev_idx, ev_lam, evL_nil, evL_cons, evO_nil, evO_val, evC_nil, evC_val, itr_val, itr_rng1, itr_rng2, itr_zip, ex_nil, ex_cons, ex_skip, ex_set, ex_own, ex_frz, ex_unp, ex_par, ex_app, ex_put, ex_bad, ex_rse, ex_rsf, ex_try, itr_enu, ex_ret, ex_drop, ex_ite, bnd_assoc, fit_non, fit_bl, fit_int, fit_str, fitL_nil, fitL_cons, eq_ii, eq_ss, eq_bb, List.any_cons, List.any_nil, Bool.or_false, Bool.and_self, Bool.and_true, Bool.true_and, slot0, slotS, ofO_some, some_bnd, pur_bnd, non_bnd, noE_pur, asBl_bl, bnd_ite, if_bl, if_true, if_false, Bool.false_eq_true, Bool.not_true, Bool.not_false, reduceIte, pyAt0, pyAt1, pyAt2, pyAt3, List.getElem?_cons_zero, List.getElem?_cons_succ, u_isStr_non, u_isStr_bl, u_isStr_int, u_isStr_str, u_isStr_tup, u_isStr_lst, u_isStr_own, u_isTup_non, u_isTup_bl, u_isTup_int, u_isTup_str, u_isTup_tup, u_isTup_lst, u_isTup_own, u_isInt_non, u_isInt_bl, u_isInt_int, u_isInt_str, u_isInt_tup, u_isInt_lst, u_isInt_own, u_isBl_non, u_isBl_bl, u_isBl_int, u_isBl_str, u_isBl_tup, u_isBl_lst, u_isBl_own, u_isLst_non, u_isLst_bl, u_isLst_int, u_isLst_str, u_isLst_tup, u_isLst_lst, u_isLst_own, ok_non, ok_bl, ok_int, ok_str, ok_tup, ok_lst, ok_own, ok_ref, u_len_str, u_len_tup, u_len_lst, u_len_own, u_int_int, u_neg_int, u_tuple_tup, u_list_tup, u_tuple_lst, u_list_lst, u_tuple_own, u_list_own, u_rev_tup, u_rev_lst, b_add_int, b_sub_int, b_add_tup, b_add_str, b_add_lst, b_mul_int, b_mod_int, b_fdiv_int, b_eq, b_ne, b_lt_int, b_lt_str, b_le_int, b_le_str, b_gt_int, b_gt_str, b_ge_int, b_ge_str, b_in_tup, b_in_lst, b_nin_tup, b_in_str, b_nin_str, b_is_bl, b_isn_bl, b_ix_tup, b_ix_lst, b_ix_str, eqO_int, eqO_str, eqO_bl, it_tup, it_lst, it_str, intOf_int, zip_tup, zip_lst, rng1_int, rng2_int, cut_tup, cut_lst, set0, setS, bindT1, bindT2, bindP2, ok_pr, sq_lst, sq_own, sq_tup, idx_t, idx_l, idx_o, lam_pur, lam_err, try_pur, try_err, hdR_cons, raise_bnd, enu_tup, sets2, wipe1, wipe2, app_own, frz_own, lstK_lst, isStr_str, enu_lst, map_s, map_n, ofO_n] at this
    exact this
  · simp only [hr, ev_var, ev_lit, ev_con, ev_tup, ev_lst, ev_un, ev_bi, ev_ch, ev_not, ev_and, ev_or, ev_ite, ev_cut, ev_call, ev_cel, ev_at0, ev_meth, ev_dct, ev_get2, ev_idx, ev_lam, evL_nil, evL_cons, evO_nil, evO_val, evC_nil, evC_val, itr_val, itr_rng1, itr_rng2, itr_zip, ex_nil, ex_cons, ex_skip, ex_set, ex_own, ex_frz, ex_unp, ex_par, ex_app, ex_put, ex_bad, ex_rse, ex_rsf, ex_try, itr_enu, ex_ret, ex_drop, ex_ite, bnd_assoc, fit_non, fit_bl, fit_int, fit_str, fitL_nil, fitL_cons, eq_ii, eq_ss, eq_bb, List.any_cons, List.any_nil, Bool.or_false, Bool.and_self, Bool.and_true, Bool.true_and, slot0, slotS, ofO_some, some_bnd, pur_bnd, non_bnd, noE_pur, asBl_bl, bnd_ite, if_bl, if_true, if_false, Bool.false_eq_true, Bool.not_true, Bool.not_false, reduceIte, pyAt0, pyAt1, pyAt2, pyAt3, List.getElem?_cons_zero, List.getElem?_cons_succ, u_isStr_non, u_isStr_bl, u_isStr_int, u_isStr_str, u_isStr_tup, u_isStr_lst, u_isStr_own, u_isTup_non, u_isTup_bl, u_isTup_int, u_isTup_str, u_isTup_tup, u_isTup_lst, u_isTup_own, u_isInt_non, u_isInt_bl, u_isInt_int, u_isInt_str, u_isInt_tup, u_isInt_lst, u_isInt_own, u_isBl_non, u_isBl_bl, u_isBl_int, u_isBl_str, u_isBl_tup, u_isBl_lst, u_isBl_own, u_isLst_non, u_isLst_bl, u_isLst_int, u_isLst_str, u_isLst_tup, u_isLst_lst, u_isLst_own, ok_non, ok_bl, ok_int, ok_str, ok_tup, ok_lst, ok_own, ok_ref, u_len_str, u_len_tup, u_len_lst, u_len_own, u_int_int, u_neg_int, u_tuple_tup, u_list_tup, u_tuple_lst, u_list_lst, u_tuple_own, u_list_own, u_rev_tup, u_rev_lst, b_add_int, b_sub_int, b_add_tup, b_add_str, b_add_lst, b_mul_int, b_mod_int, b_fdiv_int, b_eq, b_ne, b_lt_int, b_lt_str, b_le_int, b_le_str, b_gt_int, b_gt_str, b_ge_int, b_ge_str, b_in_tup, b_in_lst, b_nin_tup, b_in_str, b_nin_str, b_is_bl, b_isn_bl, b_ix_tup, b_ix_lst, b_ix_str, eqO_int, eqO_str, eqO_bl, it_tup, it_lst, it_str, intOf_int, zip_tup, zip_lst, rng1_int, rng2_int, cut_tup, cut_lst, set0, setS, bindT1, bindT2, bindP2, ok_pr, sq_lst, sq_own, sq_tup, idx_t, idx_l, idx_o, lam_pur, lam_err, try_pur, try_err, hdR_cons, raise_bnd, enu_tup, sets2, wipe1, wipe2, app_own, frz_own, lstK_lst, isStr_str, enu_lst, map_s, map_n, ofO_n]
    have := r13t k hq _ _ x4 (fun d hd => by
      simp only [List.mem_cons, List.not_mem_nil, or_false] at hd
      rcases hd with rfl
      exact x2) hs2
    simp only [ev_var, ev_lit, ev_con, ev_tup, ev_lst, ev_un, ev_bi, ev_ch, ev_not, ev_and, ev_or, ev_ite, ev_cut, ev_call, ev_cel, ev_at0, ev_meth, ev_dct, ev_get2, ev_idx, ev_lam, evL_nil, evL_cons, evO_nil, evO_val, evC_nil, evC_val, itr_val, itr_rng1, itr_rng2, itr_zip, ex_nil, ex_cons, ex_skip, ex_set, ex_own, ex_frz, ex_unp, ex_par, ex_app, ex_put, ex_bad, ex_rse, ex_rsf, ex_try, itr_enu, ex_ret, ex_drop, ex_ite, bnd_assoc, fit_non, fit_bl, fit_int, fit_str, fitL_nil, fitL_cons, eq_ii, eq_ss, eq_bb, List.any_cons, List.any_nil, Bool.or_false, Bool.and_self, Bool.and_true, Bool.true_and, slot0, slotS, ofO_some, some_bnd, pur_bnd, non_bnd, noE_pur, asBl_bl, bnd_ite, if_bl, if_true, if_false, Bool.false_eq_true, Bool.not_true, Bool.not_false, reduceIte, pyAt0, pyAt1, pyAt2, pyAt3, List.getElem?_cons_zero, List.getElem?_cons_succ, u_isStr_non, u_isStr_bl, u_isStr_int, u_isStr_str, u_isStr_tup, u_isStr_lst, u_isStr_own, u_isTup_non, u_isTup_bl, u_isTup_int, u_isTup_str, u_isTup_tup, u_isTup_lst, u_isTup_own, u_isInt_non, u_isInt_bl, u_isInt_int, u_isInt_str, u_isInt_tup, u_isInt_lst, u_isInt_own, u_isBl_non, u_isBl_bl, u_isBl_int, u_isBl_str, u_isBl_tup, u_isBl_lst, u_isBl_own, u_isLst_non, u_isLst_bl, u_isLst_int, u_isLst_str, u_isLst_tup, u_isLst_lst, u_isLst_own, ok_non, ok_bl, ok_int, ok_str, ok_tup, ok_lst, ok_own, ok_ref, u_len_str, u_len_tup, u_len_lst, u_len_own, u_int_int, u_neg_int, u_tuple_tup, u_list_tup, u_tuple_lst, u_list_lst, u_tuple_own, u_list_own, u_rev_tup, u_rev_lst, b_add_int, b_sub_int, b_add_tup, b_add_str, b_add_lst, b_mul_int, b_mod_int, b_fdiv_int, b_eq, b_ne, b_lt_int, b_lt_str, b_le_int, b_le_str, b_gt_int, b_gt_str, b_ge_int, b_ge_str, b_in_tup, b_in_lst, b_nin_tup, b_in_str, b_nin_str, b_is_bl, b_isn_bl, b_ix_tup, b_ix_lst, b_ix_str, eqO_int, eqO_str, eqO_bl, it_tup, it_lst, it_str, intOf_int, zip_tup, zip_lst, rng1_int, rng2_int, cut_tup, cut_lst, set0, setS, bindT1, bindT2, bindP2, ok_pr, sq_lst, sq_own, sq_tup, idx_t, idx_l, idx_o, lam_pur, lam_err, try_pur, try_err, hdR_cons, raise_bnd, enu_tup, sets2, wipe1, wipe2, app_own, frz_own, lstK_lst, isStr_str, enu_lst, map_s, map_n, ofO_n] at this
    exact this
end K04



namespace K04
open Ev
structure Sd where
  rows : List (List (List Nat))
  tell : List Nat
  ans : List Nat
  own : Bool
structure Su where
  fs : List (List Nat × List (List Nat))
  l : Sd
  r : Sd
  sc : List Nat
  kd : List Nat
  o : Bool
  j : Bool
def dField (f : List Nat × List (List Nat)) : D := .tup [.str f.1, .tup (f.2.map .str)]
def dRow (r : List (List Nat)) : D := .tup (r.map .str)
def dSide (s : Sd) : D := .tup [.tup (s.rows.map dRow), .str s.tell, .str s.ans, .bl s.own]
def dWay (u : Su) : D := .tup [.str u.sc, .str u.kd, .bl u.o, .bl u.j]
def dSetup (u : Su) : D := .tup [.tup (u.fs.map dField), dSide u.l, dSide u.r, dWay u]
def lab (w : List Nat) : Prop := isLabel (.str w) = true
structure GdS (fs : List (List Nat × List (List Nat))) (s : Sd) : Prop where
  len : s.rows.length = fs.length
  row : ∀ p ∈ fs.zip s.rows, p.2.length = p.1.2.length
  lab : ∀ r ∈ s.rows, ∀ w ∈ r, lab w
  mem : ∀ p ∈ fs.zip s.rows, ∀ w ∈ p.2, w ∈ p.1.2
  tell : (tells.any fun z => z.eq (.str s.tell)) = true
  ans : (answers.any fun z => z.eq (.str s.ans)) = true
structure Gd (u : Su) : Prop where
  n1 : 1 ≤ u.fs.length
  n2 : u.fs.length ≤ 2
  fs : ∀ f ∈ u.fs, lab f.1 ∧ 2 ≤ f.2.length ∧ f.2.length ≤ 4 ∧ ∀ w ∈ f.2, lab w
  cv : ∀ f ∈ u.fs, climbs f.2 = true
  cn : climbs (u.fs.map (·.1)) = true
  l : GdS u.fs u.l
  r : GdS u.fs u.r
  sc : (scopes.any fun z => z.eq (.str u.sc)) = true
  kd : (kinds.any fun z => z.eq (.str u.kd)) = true
theorem word_of {ws : List D} {v : D} (h : isWord ws v = true) : ∃ s, v = .str s ∧ (ws.any fun z => z.eq (.str s)) = true := by
  obtain ⟨h1, h2⟩ := band h
  cases v with
  | str s => exact ⟨s, rfl, h2⟩
  | _ => cases h1
theorem bl_of {v : D} (h : isBlD v = true) : ∃ b, v = .bl b := by
  cases v with
  | bl b => exact ⟨b, rfl⟩
  | _ => cases h
theorem eq_str {z : D} {s : List Nat} (h : z.eq (.str s) = true) : z = .str s := by
  cases z with
  | str t =>
    rw [eq_ss] at h
    rw [eq_of_beq h]
  | _ => unfold D.eq at h; cases h
theorem mem_word {ws : List D} {s : List Nat} (h : (ws.any fun z => z.eq (.str s)) = true) : D.str s ∈ ws := by
  obtain ⟨z, hz, e⟩ := List.any_eq_true.mp h
  rw [← eq_str e]
  exact hz
theorem fields_su : ∀ {fs : List D}, fs.all isField = true → ∃ gs : List (List Nat × List (List Nat)), fs = gs.map dField ∧ (∀ f ∈ gs, lab f.1 ∧ 2 ≤ f.2.length ∧ f.2.length ≤ 4 ∧ ∀ w ∈ f.2, lab w) ∧ ∀ f ∈ gs, climbs f.2 = true
  | [], _ => ⟨[], rfl, (fun _ h => by cases h), fun _ h => by cases h⟩
  | d :: fs, h => by
    rw [List.all_cons] at h
    obtain ⟨h1, h2⟩ := band h
    obtain ⟨gs, rfl, hg, hc⟩ := fields_su h2
    obtain ⟨s, vs, rfl, g2, g4, hl⟩ := field_of h1
    have e := labs_of hl
    have hs : lab s := (band h1).1
    have hcl : climbs (vs.map strOf) = true := (band (band (show (isLabel (.str s) && (decide (2 ≤ vs.length ∧ vs.length ≤ 4) && (vs.all isLabel && climbs (vs.map strOf)))) = true from h1)).2).2 |> fun z => (band z).2
    refine ⟨(s, vs.map strOf) :: gs, ?_, fun f hf => ?_, fun f hf => ?_⟩
    · rw [List.map_cons]
      show _ = D.tup [.str s, .tup ((vs.map strOf).map .str)] :: _
      rw [← e]
    · rcases List.mem_cons.mp hf with rfl | hf
      · refine ⟨hs, by simpa using g2, by simpa using g4, fun w hw => ?_⟩
        obtain ⟨v, hv, rfl⟩ := List.mem_map.mp hw
        show isLabel (.str (strOf v)) = true
        rw [← lab_of (all_in hl hv)]
        exact all_in hl hv
      · exact hg f hf
    · rcases List.mem_cons.mp hf with rfl | hf
      · exact hcl
      · exact hc f hf
theorem side_su {gs : List (List Nat × List (List Nat))} (hg : ∀ f ∈ gs, lab f.1 ∧ 2 ≤ f.2.length ∧ f.2.length ≤ 4 ∧ ∀ w ∈ f.2, lab w) {d : D} (h : isSide (gs.map dField) d = true) : ∃ s, d = dSide s ∧ GdS gs s := by
  cases d with
  | tup l =>
    by_cases hl : l.length = 4
    · obtain ⟨a, b, c, e, rfl⟩ := len4 hl
      rw [side_tup] at h
      obtain ⟨h1, h2⟩ := band h
      obtain ⟨h2, h3⟩ := band h2
      obtain ⟨h3, h4⟩ := band h3
      obtain ⟨t, rfl, ht⟩ := word_of h2
      obtain ⟨an, rfl, han⟩ := word_of h3
      obtain ⟨ow, rfl⟩ := bl_of h4
      cases a with
      | tup rows =>
        obtain ⟨h5, h6⟩ := band h1
        have h5 := of_decide_eq_true h5
        rw [List.length_map] at h5
        have key : ∀ (gs : List (List Nat × List (List Nat))) (rows : List D), rows.length = gs.length → (∀ f ∈ gs, ∀ w ∈ f.2, lab w) → (zipL (gs.map dField) rows).all pairOk = true → ∃ rs : List (List (List Nat)), rows = rs.map dRow ∧ rs.length = gs.length ∧ (∀ p ∈ gs.zip rs, p.2.length = p.1.2.length) ∧ (∀ r ∈ rs, ∀ w ∈ r, lab w) ∧ ∀ p ∈ gs.zip rs, ∀ w ∈ p.2, w ∈ p.1.2 := by
          intro gs
          induction gs with
          | nil =>
            intro rows hl _ _
            cases rows with
            | nil => exact ⟨[], rfl, rfl, (fun _ h => by cases h), (fun _ h => by cases h), fun _ h => by cases h⟩
            | cons _ _ => cases hl
          | cons g gs ih =>
            intro rows hl hlab hz
            cases rows with
            | nil => cases hl
            | cons row rows =>
              unfold zipL at hz
              rw [List.map_cons, List.zip_cons_cons, List.map_cons, List.all_cons] at hz
              obtain ⟨hz1, hz2⟩ := band hz
              obtain ⟨rs, e1, e2, e3, e4, e5⟩ := ih rows (by simpa using hl) (fun f hf => hlab f (List.mem_cons_of_mem _ hf)) hz2
              have hz1 : rowOk (g.2.map .str) row = true := hz1
              cases row with
              | tup r =>
                obtain ⟨k1, k2⟩ := band hz1
                have k1 := of_decide_eq_true k1
                have hin : ∀ x ∈ r, ∃ w ∈ g.2, x = .str w := by
                  intro x hx
                  obtain ⟨s, rfl, hs⟩ := word_of (all_in k2 hx)
                  obtain ⟨w, hw, ew⟩ := List.mem_map.mp (mem_word hs)
                  exact ⟨w, hw, ew.symm⟩
                have hr : r.all isLabel = true := by
                  rw [List.all_eq_true]
                  intro x hx
                  obtain ⟨w, hw, rfl⟩ := hin x hx
                  exact hlab g (List.mem_cons_self ..) _ hw
                have er := labs_of hr
                refine ⟨(r.map strOf) :: rs, ?_, by simp [e2], ?_, ?_, ?_⟩
                · rw [List.map_cons, ← e1]
                  show _ = D.tup ((r.map strOf).map .str) :: _
                  rw [← er]
                · intro p hp
                  rw [List.zip_cons_cons] at hp
                  rcases List.mem_cons.mp hp with rfl | hp
                  · simpa using k1
                  · exact e3 p hp
                · intro q hq w hw
                  rcases List.mem_cons.mp hq with rfl | hq
                  · obtain ⟨v, hv, rfl⟩ := List.mem_map.mp hw
                    show isLabel (.str (strOf v)) = true
                    rw [← lab_of (all_in hr hv)]
                    exact all_in hr hv
                  · exact e4 q hq w hw
                · intro p hp w hw
                  rw [List.zip_cons_cons] at hp
                  rcases List.mem_cons.mp hp with rfl | hp
                  · obtain ⟨v, hv, rfl⟩ := List.mem_map.mp hw
                    obtain ⟨w', hw', rfl⟩ := hin v hv
                    exact hw'
                  · exact e5 p hp w hw
              | _ => cases hz1
        obtain ⟨rs, rfl, e2, e3, e4, e5⟩ := key gs rows h5 (fun f hf => (hg f hf).2.2.2) h6
        exact ⟨⟨rs, t, an, ow⟩, rfl, ⟨e2, e3, e4, e5, ht, han⟩⟩
      | _ => cases h1
    · rw [side_not hl] at h; cases h
  | _ => cases h
theorem setup_su {d : D} (h : isSetup d = true) : ∃ u, d = dSetup u ∧ Gd u := by
  cases d with
  | tup l =>
    by_cases hl : l.length = 4
    · obtain ⟨f, a, b, w, rfl⟩ := len4 hl
      rw [setup_tup] at h
      obtain ⟨h1, h2'⟩ := band h
      obtain ⟨hway, h3'⟩ := band h2'
      obtain ⟨h3, h4⟩ := band h3'
      obtain ⟨fs, rfl, hfs⟩ := fields_of h1
      have hn := of_decide_eq_true (band h1).1
      obtain ⟨gs, rfl, hg, hcv⟩ := fields_su hfs
      have hcn : climbs (gs.map (·.1)) = true := by
        have := (band (band (band h1).2).2).2
        rw [List.map_map] at this
        exact this
      obtain ⟨sl, rfl, gl⟩ := side_su hg h3
      obtain ⟨sr, rfl, gr⟩ := side_su hg h4
      cases w with
      | tup ws =>
        by_cases hw : ws.length = 4
        · obtain ⟨w0, w1, w2, w3, rfl⟩ := len4 hw
          rw [way_tup] at hway
          obtain ⟨k0, k1'⟩ := band hway
          obtain ⟨k1, k2'⟩ := band k1'
          obtain ⟨k2, k3⟩ := band k2'
          obtain ⟨sc, rfl, hsc⟩ := word_of k0
          obtain ⟨kd, rfl, hkd⟩ := word_of k1
          obtain ⟨o, rfl⟩ := bl_of k2
          obtain ⟨j, rfl⟩ := bl_of k3
          exact ⟨⟨gs, sl, sr, sc, kd, o, j⟩, rfl, ⟨by simpa using hn.1, by simpa using hn.2, hg, hcv, hcn, gl, gr, hsc, hkd⟩⟩
        · rw [way_not hw] at hway; cases hway
      | _ => cases hway
    · rw [setup_not hl] at h; cases h
  | _ => cases h
end K04


namespace K04
open Ev
abbrev Wo := List Nat
abbrev wLeft : Wo := [108, 101, 102, 116]
abbrev wRight : Wo := [114, 105, 103, 104, 116]
def isSd (w : Wo) : Prop := w = wLeft ∨ w = wRight
def sd (u : Su) (w : Wo) : Sd := if w = wLeft then u.l else u.r
def oth (w : Wo) : Wo := if w = wLeft then wRight else wLeft
theorem oth_sd {w : Wo} : isSd (oth w) := by
  unfold oth isSd
  by_cases h : w = wLeft <;> simp [h]
theorem gd_sd {u : Su} (g : Gd u) (w : Wo) : GdS u.fs (sd u w) := by
  unfold sd
  by_cases h : w = wLeft
  · rw [if_pos h]; exact g.l
  · rw [if_neg h]; exact g.r
/-- what a side makes of a value -/
def stW (vals row : List Wo) (v : Wo) : Wo := row.getD (vals.findIdx fun z => z == v) []
/-- a field, its values and what a side stores of them -/
structure Fi (u : Su) (w : Wo) (at_ : Nat) (f : Wo × List Wo) (row : List Wo) : Prop where
  f : u.fs[at_]? = some f
  r : (sd u w).rows[at_]? = some row
theorem Fi.zip {u : Su} {w : Wo} {i : Nat} {f : Wo × List Wo} {row : List Wo} (h : Fi u w i f row) : (f, row) ∈ u.fs.zip (sd u w).rows :=
  List.mem_of_getElem? (List.getElem?_zip_eq_some.mpr ⟨h.f, h.r⟩)
theorem Fi.len {u : Su} (g : Gd u) {w : Wo} {i : Nat} {f : Wo × List Wo} {row : List Wo} (h : Fi u w i f row) : row.length = f.2.length := (gd_sd g w).row _ h.zip
theorem fi_of {u : Su} (g : Gd u) (w : Wo) {i : Nat} {f : Wo × List Wo} (h : u.fs[i]? = some f) : ∃ row, Fi u w i f row := by
  have hl : i < (sd u w).rows.length := by rw [(gd_sd g w).len]; exact (List.getElem?_eq_some_iff.mp h).1
  exact ⟨_, h, List.getElem?_eq_getElem hl⟩
theorem idx_lt {vals : List Wo} {v : Wo} (h : v ∈ vals) : vals.findIdx (fun z => z == v) < vals.length := List.findIdx_lt_length.mpr ⟨v, h, by simp⟩
theorem idx_some {vals : List Wo} {v : Wo} (h : v ∈ vals) : vals.findIdx? (fun z => z == v) = some (vals.findIdx fun z => z == v) := by
  rw [List.findIdx?_eq_some_iff_findIdx_eq]
  exact ⟨idx_lt h, rfl⟩
theorem st_mem {u : Su} (g : Gd u) {w : Wo} {i : Nat} {f : Wo × List Wo} {row : List Wo} (h : Fi u w i f row) {v : Wo} (hv : v ∈ f.2) : stW f.2 row v ∈ f.2 := by
  have hl := idx_lt hv
  have hr : f.2.findIdx (fun z => z == v) < row.length := by rw [h.len g]; exact hl
  unfold stW
  rw [List.getD_eq_getElem?_getD, List.getElem?_eq_getElem hr]
  exact (gd_sd g w).mem _ h.zip _ (List.getElem_mem hr)
theorem strs_map : ∀ ws : List Wo, strsOf (ws.map D.str) = some ws
  | [] => rfl
  | w :: ws => by
    show (strsOf (ws.map D.str)).map (w :: ·) = _
    rw [strs_map ws]; rfl
theorem at_mapN {α : Type} {l : List α} {f : α → D} {i : Nat} {x : α} (h : l[i]? = some x) : pyAt (l.map f) (i : Int) = some (f x) := by
  rw [pyAt_nat, List.getElem?_map, h]; rfl
theorem conS : T.C 0 = some (.tup [.str wLeft, .str wRight]) := rfl
theorem r13s (k : Nat) {w : Wo} (h : isSd w) : F (k + 1) 13 [.str w] = pur (.str (oth w)) := by
  rcases h with rfl | rfl <;> rfl
theorem r25s (k : Nat) {w : Wo} (h : isSd w) : F (k + 1) 25 [.str w] = pur (.str (oth w)) := by
  rcases h with rfl | rfl <;> rfl
theorem ok_side {s : Sd} : asOk (dSide s) = pur (dSide s) := rfl
theorem ok_setup {u : Su} : asOk (dSetup u) = pur (dSetup u) := rfl
theorem r14s (k : Nat) {w : Wo} (u : Su) (h : isSd w) : F (k + 1) 14 [dSetup u, .str w] = pur (dSide (sd u w)) := by
  rw [F, runF_at (fd := f14) rfl rfl]
  show bnd (exS _ _ b14 [some (dSetup u), some (.str w)]) _ = _
  unfold b14
  have e : strsOf [D.str wLeft, D.str wRight] = some [wLeft, wRight] := rfl
  rcases h with rfl | rfl
  · simp only [ev_var, ev_lit, ev_con, ev_tup, ev_lst, ev_un, ev_bi, ev_ch, ev_not, ev_and, ev_or, ev_ite, ev_cut, ev_call, ev_cel, ev_at0, ev_meth, ev_dct, ev_get2, ev_idx, ev_lam, evL_nil, evL_cons, evO_nil, evO_val, evC_nil, evC_val, itr_val, itr_rng1, itr_rng2, itr_zip, ex_nil, ex_cons, ex_skip, ex_set, ex_own, ex_frz, ex_unp, ex_par, ex_app, ex_put, ex_bad, ex_rse, ex_rsf, ex_try, ex_paro, itr_enu, ex_ret, ex_drop, ex_ite, bnd_assoc, fit_non, fit_bl, fit_int, fit_str, fitL_nil, fitL_cons, eq_ii, eq_ss, eq_bb, List.any_cons, List.any_nil, Bool.or_false, Bool.and_self, Bool.and_true, Bool.true_and, slot0, slotS, ofO_some, some_bnd, pur_bnd, non_bnd, noE_pur, asBl_bl, bnd_ite, if_bl, if_true, if_false, Bool.false_eq_true, Bool.not_true, Bool.not_false, reduceIte, pyAt0, pyAt1, pyAt2, pyAt3, List.getElem?_cons_zero, List.getElem?_cons_succ, u_isStr_non, u_isStr_bl, u_isStr_int, u_isStr_str, u_isStr_tup, u_isStr_lst, u_isStr_own, u_isTup_non, u_isTup_bl, u_isTup_int, u_isTup_str, u_isTup_tup, u_isTup_lst, u_isTup_own, u_isInt_non, u_isInt_bl, u_isInt_int, u_isInt_str, u_isInt_tup, u_isInt_lst, u_isInt_own, u_isBl_non, u_isBl_bl, u_isBl_int, u_isBl_str, u_isBl_tup, u_isBl_lst, u_isBl_own, u_isLst_non, u_isLst_bl, u_isLst_int, u_isLst_str, u_isLst_tup, u_isLst_lst, u_isLst_own, ok_non, ok_bl, ok_int, ok_str, ok_tup, ok_lst, ok_own, ok_ref, u_len_str, u_len_tup, u_len_lst, u_len_own, u_int_int, u_neg_int, u_tuple_tup, u_list_tup, u_tuple_lst, u_list_lst, u_tuple_own, u_list_own, u_rev_tup, u_rev_lst, b_add_int, b_sub_int, b_add_tup, b_add_str, b_add_lst, b_mul_int, b_mod_int, b_fdiv_int, b_eq, b_ne, b_lt_int, b_lt_str, b_le_int, b_le_str, b_gt_int, b_gt_str, b_ge_int, b_ge_str, b_in_tup, b_in_lst, b_nin_tup, b_in_str, b_nin_str, b_is_bl, b_isn_bl, b_ix_tup, b_ix_lst, b_ix_str, eqO_int, eqO_str, eqO_bl, it_tup, it_lst, it_str, intOf_int, zip_tup, zip_lst, rng1_int, rng2_int, cut_tup, cut_lst, set0, setS, bindT1, bindT2, ownK_t, ownK_f, cut_own, b_in_own, b_nin_own, b_nin_lst, b_ix_own, bindP2, ok_pr, sq_lst, sq_own, sq_tup, idx_t, idx_l, idx_o, lam_pur, lam_err, try_pur, try_err, hdR_cons, raise_bnd, enu_tup, sets2, wipe1, wipe2, app_own, frz_own, lstK_lst, isStr_str, enu_lst, map_s, map_n, ofO_n, conS, e, Option.bind_some]
    rfl
  · simp only [ev_var, ev_lit, ev_con, ev_tup, ev_lst, ev_un, ev_bi, ev_ch, ev_not, ev_and, ev_or, ev_ite, ev_cut, ev_call, ev_cel, ev_at0, ev_meth, ev_dct, ev_get2, ev_idx, ev_lam, evL_nil, evL_cons, evO_nil, evO_val, evC_nil, evC_val, itr_val, itr_rng1, itr_rng2, itr_zip, ex_nil, ex_cons, ex_skip, ex_set, ex_own, ex_frz, ex_unp, ex_par, ex_app, ex_put, ex_bad, ex_rse, ex_rsf, ex_try, ex_paro, itr_enu, ex_ret, ex_drop, ex_ite, bnd_assoc, fit_non, fit_bl, fit_int, fit_str, fitL_nil, fitL_cons, eq_ii, eq_ss, eq_bb, List.any_cons, List.any_nil, Bool.or_false, Bool.and_self, Bool.and_true, Bool.true_and, slot0, slotS, ofO_some, some_bnd, pur_bnd, non_bnd, noE_pur, asBl_bl, bnd_ite, if_bl, if_true, if_false, Bool.false_eq_true, Bool.not_true, Bool.not_false, reduceIte, pyAt0, pyAt1, pyAt2, pyAt3, List.getElem?_cons_zero, List.getElem?_cons_succ, u_isStr_non, u_isStr_bl, u_isStr_int, u_isStr_str, u_isStr_tup, u_isStr_lst, u_isStr_own, u_isTup_non, u_isTup_bl, u_isTup_int, u_isTup_str, u_isTup_tup, u_isTup_lst, u_isTup_own, u_isInt_non, u_isInt_bl, u_isInt_int, u_isInt_str, u_isInt_tup, u_isInt_lst, u_isInt_own, u_isBl_non, u_isBl_bl, u_isBl_int, u_isBl_str, u_isBl_tup, u_isBl_lst, u_isBl_own, u_isLst_non, u_isLst_bl, u_isLst_int, u_isLst_str, u_isLst_tup, u_isLst_lst, u_isLst_own, ok_non, ok_bl, ok_int, ok_str, ok_tup, ok_lst, ok_own, ok_ref, u_len_str, u_len_tup, u_len_lst, u_len_own, u_int_int, u_neg_int, u_tuple_tup, u_list_tup, u_tuple_lst, u_list_lst, u_tuple_own, u_list_own, u_rev_tup, u_rev_lst, b_add_int, b_sub_int, b_add_tup, b_add_str, b_add_lst, b_mul_int, b_mod_int, b_fdiv_int, b_eq, b_ne, b_lt_int, b_lt_str, b_le_int, b_le_str, b_gt_int, b_gt_str, b_ge_int, b_ge_str, b_in_tup, b_in_lst, b_nin_tup, b_in_str, b_nin_str, b_is_bl, b_isn_bl, b_ix_tup, b_ix_lst, b_ix_str, eqO_int, eqO_str, eqO_bl, it_tup, it_lst, it_str, intOf_int, zip_tup, zip_lst, rng1_int, rng2_int, cut_tup, cut_lst, set0, setS, bindT1, bindT2, ownK_t, ownK_f, cut_own, b_in_own, b_nin_own, b_nin_lst, b_ix_own, bindP2, ok_pr, sq_lst, sq_own, sq_tup, idx_t, idx_l, idx_o, lam_pur, lam_err, try_pur, try_err, hdR_cons, raise_bnd, enu_tup, sets2, wipe1, wipe2, app_own, frz_own, lstK_lst, isStr_str, enu_lst, map_s, map_n, ofO_n, conS, e, Option.bind_some]
    rfl
theorem r15s (k : Nat) {w : Wo} {u : Su} (g : Gd u) (h : isSd w) {i : Nat} {f : Wo × List Wo} {row : List Wo} (hf : Fi u w i f row) {v : Wo} (hv : v ∈ f.2) : F (k + 2) 15 [dSetup u, .str w, .int (i : Int), .str v] = pur (.str (stW f.2 row v)) := by
  rw [F, runF_at (fd := f15) rfl rfl]
  show bnd (exS _ _ b15 [some (dSetup u), some (.str w), some (.int (i : Int)), some (.str v)]) _ = _
  unfold b15
  have q := r14s k u h
  have a1 : bop .ix (dSide (sd u w)) (.int 0) = some (.tup ((sd u w).rows.map dRow)) := rfl
  have a2 : bop .ix (.tup ((sd u w).rows.map dRow)) (.int (i : Int)) = some (dRow row) := by rw [b_ix_tup]; exact at_mapN hf.r
  have a3 : bop .ix (dSetup u) (.int 0) = some (.tup (u.fs.map dField)) := rfl
  have a4 : bop .ix (.tup (u.fs.map dField)) (.int (i : Int)) = some (dField f) := by rw [b_ix_tup]; exact at_mapN hf.f
  have a5 : bop .ix (dField f) (.int 1) = some (.tup (f.2.map .str)) := rfl
  have hr : f.2.findIdx (fun z => z == v) < row.length := by rw [hf.len g]; exact idx_lt hv
  have a6 : bop .ix (dRow row) (.int ((f.2.findIdx fun z => z == v : Nat) : Int)) = some (.str (stW f.2 row v)) := by
    unfold dRow
    rw [b_ix_tup]
    refine at_mapN ?_
    unfold stW
    rw [List.getD_eq_getElem?_getD, List.getElem?_eq_getElem hr]
    rfl
  simp only [q, a1, a2, a3, a4, a5, a6, ok_setup, strs_map, idx_some hv, Option.bind_some, ev_var, ev_lit, ev_con, ev_tup, ev_lst, ev_un, ev_bi, ev_ch, ev_not, ev_and, ev_or, ev_ite, ev_cut, ev_call, ev_cel, ev_at0, ev_meth, ev_dct, ev_get2, ev_idx, ev_lam, evL_nil, evL_cons, evO_nil, evO_val, evC_nil, evC_val, itr_val, itr_rng1, itr_rng2, itr_zip, ex_nil, ex_cons, ex_skip, ex_set, ex_own, ex_frz, ex_unp, ex_par, ex_app, ex_put, ex_bad, ex_rse, ex_rsf, ex_try, ex_paro, itr_enu, ex_ret, ex_drop, ex_ite, bnd_assoc, fit_non, fit_bl, fit_int, fit_str, fitL_nil, fitL_cons, eq_ii, eq_ss, eq_bb, List.any_cons, List.any_nil, Bool.or_false, Bool.and_self, Bool.and_true, Bool.true_and, slot0, slotS, ofO_some, some_bnd, pur_bnd, non_bnd, noE_pur, asBl_bl, bnd_ite, if_bl, if_true, if_false, Bool.false_eq_true, Bool.not_true, Bool.not_false, reduceIte, pyAt0, pyAt1, pyAt2, pyAt3, List.getElem?_cons_zero, List.getElem?_cons_succ, u_isStr_non, u_isStr_bl, u_isStr_int, u_isStr_str, u_isStr_tup, u_isStr_lst, u_isStr_own, u_isTup_non, u_isTup_bl, u_isTup_int, u_isTup_str, u_isTup_tup, u_isTup_lst, u_isTup_own, u_isInt_non, u_isInt_bl, u_isInt_int, u_isInt_str, u_isInt_tup, u_isInt_lst, u_isInt_own, u_isBl_non, u_isBl_bl, u_isBl_int, u_isBl_str, u_isBl_tup, u_isBl_lst, u_isBl_own, u_isLst_non, u_isLst_bl, u_isLst_int, u_isLst_str, u_isLst_tup, u_isLst_lst, u_isLst_own, ok_non, ok_bl, ok_int, ok_str, ok_tup, ok_lst, ok_own, ok_ref, u_len_str, u_len_tup, u_len_lst, u_len_own, u_int_int, u_neg_int, u_tuple_tup, u_list_tup, u_tuple_lst, u_list_lst, u_tuple_own, u_list_own, u_rev_tup, u_rev_lst, b_add_int, b_sub_int, b_add_tup, b_add_str, b_add_lst, b_mul_int, b_mod_int, b_fdiv_int, b_eq, b_ne, b_lt_int, b_lt_str, b_le_int, b_le_str, b_gt_int, b_gt_str, b_ge_int, b_ge_str, b_in_tup, b_in_lst, b_nin_tup, b_in_str, b_nin_str, b_is_bl, b_isn_bl, b_ix_tup, b_ix_lst, b_ix_str, eqO_int, eqO_str, eqO_bl, it_tup, it_lst, it_str, intOf_int, zip_tup, zip_lst, rng1_int, rng2_int, cut_tup, cut_lst, set0, setS, bindT1, bindT2, ownK_t, ownK_f, cut_own, b_in_own, b_nin_own, b_nin_lst, b_ix_own, bindP2, ok_pr, sq_lst, sq_own, sq_tup, idx_t, idx_l, idx_o, lam_pur, lam_err, try_pur, try_err, hdR_cons, raise_bnd, enu_tup, sets2, wipe1, wipe2, app_own, frz_own, lstK_lst, isStr_str, enu_lst, map_s, map_n, ofO_n]
end K04

namespace K04
open Ev
theorem head_st : ∀ {vals row : List Wo} {v : Wo}, v ∈ vals → row.length = vals.length → ((vals.zip row).filter fun p => p.1 == v)[0]? = some (v, stW vals row v)
  | [], _, _, h, _ => by cases h
  | a :: vals, [], _, _, hl => by cases hl
  | a :: vals, r :: row, v, h, hl => by
    rw [List.zip_cons_cons, List.filter_cons]
    unfold stW
    by_cases e : a = v
    · subst e
      simp [List.findIdx_cons]
    · have ne : (a == v) = false := by simpa using e
      simp only [ne, Bool.false_eq_true, if_false]
      have hm : v ∈ vals := by
        rcases List.mem_cons.mp h with z | z
        · exact absurd z.symm e
        · exact z
      rw [head_st hm (by simpa using hl)]
      unfold stW
      rw [List.findIdx_cons, ne]
      simp
theorem zip_D (vals row : List Wo) : zipL (vals.map D.str) (row.map D.str) = (vals.zip row).map fun p => D.pr (.str p.1) (.str p.2) := by
  unfold zipL
  rw [List.zip_map, List.map_map]
  rfl
theorem r24s (k : Nat) {w : Wo} {u : Su} (g : Gd u) (h : isSd w) {i : Nat} {f : Wo × List Wo} {row : List Wo} (hf : Fi u w i f row) {v : Wo} (hv : v ∈ f.2) : F (k + 1) 24 [dSetup u, .str w, .int (i : Int), .str v] = pur (.str (stW f.2 row v)) := by
  rw [F, runF_at (fd := f24) rfl rfl]
  show bnd (exS _ _ b24 [some (dSetup u), some (.str w), some (.int (i : Int)), some (.str v), none, none, none, none]) _ = _
  unfold b24
  have a0 : bop .ix (dSetup u) (.int 1) = some (dSide u.l) := rfl
  have a0' : bop .ix (dSetup u) (.int 2) = some (dSide u.r) := rfl
  have a1 : bop .ix (dSide (sd u w)) (.int 0) = some (.tup ((sd u w).rows.map dRow)) := rfl
  have a2 : bop .ix (.tup ((sd u w).rows.map dRow)) (.int (i : Int)) = some (dRow row) := by rw [b_ix_tup]; exact at_mapN hf.r
  have a3 : bop .ix (dSetup u) (.int 0) = some (.tup (u.fs.map dField)) := rfl
  have a4 : bop .ix (.tup (u.fs.map dField)) (.int (i : Int)) = some (dField f) := by rw [b_ix_tup]; exact at_mapN hf.f
  have a5 : bop .ix (dField f) (.int 1) = some (.tup (f.2.map .str)) := rfl
  have part : (if (w == wLeft) = true then (pur (dSide u.l) : M D) else pur (dSide u.r)) = pur (dSide (sd u w)) := by
    unfold sd
    by_cases e : w = wLeft
    · simp [e]
    · simp [e]
  have comp : ∀ o5 : Option D, ev (runF T.fns T.C k) T.C (.comp [6, 7] (.val (.bi .eq (.var 6) (.var 3))) (.var 7) (.zip (.var 5) (.bi .ix (.bi .ix (.var 4) (.lit (.int 0))) (.var 2)))) [some (dSetup u), some (.str w), some (.int (i : Int)), some (.str v), some (dSide (sd u w)), some (.tup (f.2.map .str)), none, none] = pur (.lst (((f.2.zip row).filter fun p => p.1 == v).map fun p => .str p.2)) := by
    intro o5
    rw [ev_comp_filter (f.2.zip row) (fun p => .pr (.str p.1) (.str p.2)) (fun p => p.1 == v) (fun p => .str p.2)]
    · simp only [a1, a2, ev_var, ev_lit, ev_con, ev_tup, ev_lst, ev_un, ev_bi, ev_ch, ev_not, ev_and, ev_or, ev_ite, ev_cut, ev_call, ev_cel, ev_at0, ev_meth, ev_dct, ev_get2, ev_idx, ev_lam, evL_nil, evL_cons, evO_nil, evO_val, evC_nil, evC_val, itr_val, itr_rng1, itr_rng2, itr_zip, ex_nil, ex_cons, ex_skip, ex_set, ex_own, ex_frz, ex_unp, ex_par, ex_app, ex_put, ex_bad, ex_rse, ex_rsf, ex_try, ex_paro, itr_enu, ex_ret, ex_drop, ex_ite, bnd_assoc, fit_non, fit_bl, fit_int, fit_str, fitL_nil, fitL_cons, eq_ii, eq_ss, eq_bb, List.any_cons, List.any_nil, Bool.or_false, Bool.and_self, Bool.and_true, Bool.true_and, slot0, slotS, ofO_some, some_bnd, pur_bnd, non_bnd, noE_pur, asBl_bl, bnd_ite, if_bl, if_true, if_false, Bool.false_eq_true, Bool.not_true, Bool.not_false, reduceIte, pyAt0, pyAt1, pyAt2, pyAt3, List.getElem?_cons_zero, List.getElem?_cons_succ, u_isStr_non, u_isStr_bl, u_isStr_int, u_isStr_str, u_isStr_tup, u_isStr_lst, u_isStr_own, u_isTup_non, u_isTup_bl, u_isTup_int, u_isTup_str, u_isTup_tup, u_isTup_lst, u_isTup_own, u_isInt_non, u_isInt_bl, u_isInt_int, u_isInt_str, u_isInt_tup, u_isInt_lst, u_isInt_own, u_isBl_non, u_isBl_bl, u_isBl_int, u_isBl_str, u_isBl_tup, u_isBl_lst, u_isBl_own, u_isLst_non, u_isLst_bl, u_isLst_int, u_isLst_str, u_isLst_tup, u_isLst_lst, u_isLst_own, ok_non, ok_bl, ok_int, ok_str, ok_tup, ok_lst, ok_own, ok_ref, u_len_str, u_len_tup, u_len_lst, u_len_own, u_int_int, u_neg_int, u_tuple_tup, u_list_tup, u_tuple_lst, u_list_lst, u_tuple_own, u_list_own, u_rev_tup, u_rev_lst, b_add_int, b_sub_int, b_add_tup, b_add_str, b_add_lst, b_mul_int, b_mod_int, b_fdiv_int, b_eq, b_ne, b_lt_int, b_lt_str, b_le_int, b_le_str, b_gt_int, b_gt_str, b_ge_int, b_ge_str, b_in_tup, b_in_lst, b_nin_tup, b_in_str, b_nin_str, b_is_bl, b_isn_bl, b_ix_tup, b_ix_lst, b_ix_str, eqO_int, eqO_str, eqO_bl, it_tup, it_lst, it_str, intOf_int, zip_tup, zip_lst, rng1_int, rng2_int, cut_tup, cut_lst, set0, setS, bindT1, bindT2, ownK_t, ownK_f, cut_own, b_in_own, b_nin_own, b_nin_lst, b_ix_own, bindP2, ok_pr, sq_lst, sq_own, sq_tup, idx_t, idx_l, idx_o, lam_pur, lam_err, try_pur, try_err, hdR_cons, raise_bnd, enu_tup, sets2, wipe1, wipe2, app_own, frz_own, lstK_lst, isStr_str, enu_lst, map_s, map_n, ofO_n]
      show zipOf (.tup (f.2.map .str)) (.tup (row.map .str)) = _
      rw [zip_tup, zip_D]
    · intro p hp
      simp only [ev_var, ev_lit, ev_con, ev_tup, ev_lst, ev_un, ev_bi, ev_ch, ev_not, ev_and, ev_or, ev_ite, ev_cut, ev_call, ev_cel, ev_at0, ev_meth, ev_dct, ev_get2, ev_idx, ev_lam, evL_nil, evL_cons, evO_nil, evO_val, evC_nil, evC_val, itr_val, itr_rng1, itr_rng2, itr_zip, ex_nil, ex_cons, ex_skip, ex_set, ex_own, ex_frz, ex_unp, ex_par, ex_app, ex_put, ex_bad, ex_rse, ex_rsf, ex_try, ex_paro, itr_enu, ex_ret, ex_drop, ex_ite, bnd_assoc, fit_non, fit_bl, fit_int, fit_str, fitL_nil, fitL_cons, eq_ii, eq_ss, eq_bb, List.any_cons, List.any_nil, Bool.or_false, Bool.and_self, Bool.and_true, Bool.true_and, slot0, slotS, ofO_some, some_bnd, pur_bnd, non_bnd, noE_pur, asBl_bl, bnd_ite, if_bl, if_true, if_false, Bool.false_eq_true, Bool.not_true, Bool.not_false, reduceIte, pyAt0, pyAt1, pyAt2, pyAt3, List.getElem?_cons_zero, List.getElem?_cons_succ, u_isStr_non, u_isStr_bl, u_isStr_int, u_isStr_str, u_isStr_tup, u_isStr_lst, u_isStr_own, u_isTup_non, u_isTup_bl, u_isTup_int, u_isTup_str, u_isTup_tup, u_isTup_lst, u_isTup_own, u_isInt_non, u_isInt_bl, u_isInt_int, u_isInt_str, u_isInt_tup, u_isInt_lst, u_isInt_own, u_isBl_non, u_isBl_bl, u_isBl_int, u_isBl_str, u_isBl_tup, u_isBl_lst, u_isBl_own, u_isLst_non, u_isLst_bl, u_isLst_int, u_isLst_str, u_isLst_tup, u_isLst_lst, u_isLst_own, ok_non, ok_bl, ok_int, ok_str, ok_tup, ok_lst, ok_own, ok_ref, u_len_str, u_len_tup, u_len_lst, u_len_own, u_int_int, u_neg_int, u_tuple_tup, u_list_tup, u_tuple_lst, u_list_lst, u_tuple_own, u_list_own, u_rev_tup, u_rev_lst, b_add_int, b_sub_int, b_add_tup, b_add_str, b_add_lst, b_mul_int, b_mod_int, b_fdiv_int, b_eq, b_ne, b_lt_int, b_lt_str, b_le_int, b_le_str, b_gt_int, b_gt_str, b_ge_int, b_ge_str, b_in_tup, b_in_lst, b_nin_tup, b_in_str, b_nin_str, b_is_bl, b_isn_bl, b_ix_tup, b_ix_lst, b_ix_str, eqO_int, eqO_str, eqO_bl, it_tup, it_lst, it_str, intOf_int, zip_tup, zip_lst, rng1_int, rng2_int, cut_tup, cut_lst, set0, setS, bindT1, bindT2, ownK_t, ownK_f, cut_own, b_in_own, b_nin_own, b_nin_lst, b_ix_own, bindP2, ok_pr, sq_lst, sq_own, sq_tup, idx_t, idx_l, idx_o, lam_pur, lam_err, try_pur, try_err, hdR_cons, raise_bnd, enu_tup, sets2, wipe1, wipe2, app_own, frz_own, lstK_lst, isStr_str, enu_lst, map_s, map_n, ofO_n, eqO_str]
      by_cases e : p.1 == v <;> simp [e]
  have a6 : bop .ix (.lst (((f.2.zip row).filter fun p => p.1 == v).map fun p => .str p.2)) (.int 0) = some (.str (stW f.2 row v)) := by
    rw [b_ix_lst, pyAt0, List.getElem?_map, head_st hv (hf.len g)]
    rfl
  by_cases e : w = wLeft
  · have es : sd u w = u.l := if_pos e
    have ew : (w == [108, 101, 102, 116]) = true := by simpa using e
    rw [es] at comp
    simp only [a0, a0', a3, a4, a5, a6, eqO_str, ew, ok_side, comp none, ev_var, ev_lit, ev_con, ev_tup, ev_lst, ev_un, ev_bi, ev_ch, ev_not, ev_and, ev_or, ev_ite, ev_cut, ev_call, ev_cel, ev_at0, ev_meth, ev_dct, ev_get2, ev_idx, ev_lam, evL_nil, evL_cons, evO_nil, evO_val, evC_nil, evC_val, itr_val, itr_rng1, itr_rng2, itr_zip, ex_nil, ex_cons, ex_skip, ex_set, ex_own, ex_frz, ex_unp, ex_par, ex_app, ex_put, ex_bad, ex_rse, ex_rsf, ex_try, ex_paro, itr_enu, ex_ret, ex_drop, ex_ite, bnd_assoc, fit_non, fit_bl, fit_int, fit_str, fitL_nil, fitL_cons, eq_ii, eq_ss, eq_bb, List.any_cons, List.any_nil, Bool.or_false, Bool.and_self, Bool.and_true, Bool.true_and, slot0, slotS, ofO_some, some_bnd, pur_bnd, non_bnd, noE_pur, asBl_bl, bnd_ite, if_bl, if_true, if_false, Bool.false_eq_true, Bool.not_true, Bool.not_false, reduceIte, pyAt0, pyAt1, pyAt2, pyAt3, List.getElem?_cons_zero, List.getElem?_cons_succ, u_isStr_non, u_isStr_bl, u_isStr_int, u_isStr_str, u_isStr_tup, u_isStr_lst, u_isStr_own, u_isTup_non, u_isTup_bl, u_isTup_int, u_isTup_str, u_isTup_tup, u_isTup_lst, u_isTup_own, u_isInt_non, u_isInt_bl, u_isInt_int, u_isInt_str, u_isInt_tup, u_isInt_lst, u_isInt_own, u_isBl_non, u_isBl_bl, u_isBl_int, u_isBl_str, u_isBl_tup, u_isBl_lst, u_isBl_own, u_isLst_non, u_isLst_bl, u_isLst_int, u_isLst_str, u_isLst_tup, u_isLst_lst, u_isLst_own, ok_non, ok_bl, ok_int, ok_str, ok_tup, ok_lst, ok_own, ok_ref, u_len_str, u_len_tup, u_len_lst, u_len_own, u_int_int, u_neg_int, u_tuple_tup, u_list_tup, u_tuple_lst, u_list_lst, u_tuple_own, u_list_own, u_rev_tup, u_rev_lst, b_add_int, b_sub_int, b_add_tup, b_add_str, b_add_lst, b_mul_int, b_mod_int, b_fdiv_int, b_eq, b_ne, b_lt_int, b_lt_str, b_le_int, b_le_str, b_gt_int, b_gt_str, b_ge_int, b_ge_str, b_in_tup, b_in_lst, b_nin_tup, b_in_str, b_nin_str, b_is_bl, b_isn_bl, b_ix_tup, b_ix_lst, b_ix_str, eqO_int, eqO_str, eqO_bl, it_tup, it_lst, it_str, intOf_int, zip_tup, zip_lst, rng1_int, rng2_int, cut_tup, cut_lst, set0, setS, bindT1, bindT2, ownK_t, ownK_f, cut_own, b_in_own, b_nin_own, b_nin_lst, b_ix_own, bindP2, ok_pr, sq_lst, sq_own, sq_tup, idx_t, idx_l, idx_o, lam_pur, lam_err, try_pur, try_err, hdR_cons, raise_bnd, enu_tup, sets2, wipe1, wipe2, app_own, frz_own, lstK_lst, isStr_str, enu_lst, map_s, map_n, ofO_n]
  · have es : sd u w = u.r := if_neg e
    have ew : (w == [108, 101, 102, 116]) = false := by simpa using e
    rw [es] at comp
    simp only [a0, a0', a3, a4, a5, a6, eqO_str, ew, ok_side, comp none, ev_var, ev_lit, ev_con, ev_tup, ev_lst, ev_un, ev_bi, ev_ch, ev_not, ev_and, ev_or, ev_ite, ev_cut, ev_call, ev_cel, ev_at0, ev_meth, ev_dct, ev_get2, ev_idx, ev_lam, evL_nil, evL_cons, evO_nil, evO_val, evC_nil, evC_val, itr_val, itr_rng1, itr_rng2, itr_zip, ex_nil, ex_cons, ex_skip, ex_set, ex_own, ex_frz, ex_unp, ex_par, ex_app, ex_put, ex_bad, ex_rse, ex_rsf, ex_try, ex_paro, itr_enu, ex_ret, ex_drop, ex_ite, bnd_assoc, fit_non, fit_bl, fit_int, fit_str, fitL_nil, fitL_cons, eq_ii, eq_ss, eq_bb, List.any_cons, List.any_nil, Bool.or_false, Bool.and_self, Bool.and_true, Bool.true_and, slot0, slotS, ofO_some, some_bnd, pur_bnd, non_bnd, noE_pur, asBl_bl, bnd_ite, if_bl, if_true, if_false, Bool.false_eq_true, Bool.not_true, Bool.not_false, reduceIte, pyAt0, pyAt1, pyAt2, pyAt3, List.getElem?_cons_zero, List.getElem?_cons_succ, u_isStr_non, u_isStr_bl, u_isStr_int, u_isStr_str, u_isStr_tup, u_isStr_lst, u_isStr_own, u_isTup_non, u_isTup_bl, u_isTup_int, u_isTup_str, u_isTup_tup, u_isTup_lst, u_isTup_own, u_isInt_non, u_isInt_bl, u_isInt_int, u_isInt_str, u_isInt_tup, u_isInt_lst, u_isInt_own, u_isBl_non, u_isBl_bl, u_isBl_int, u_isBl_str, u_isBl_tup, u_isBl_lst, u_isBl_own, u_isLst_non, u_isLst_bl, u_isLst_int, u_isLst_str, u_isLst_tup, u_isLst_lst, u_isLst_own, ok_non, ok_bl, ok_int, ok_str, ok_tup, ok_lst, ok_own, ok_ref, u_len_str, u_len_tup, u_len_lst, u_len_own, u_int_int, u_neg_int, u_tuple_tup, u_list_tup, u_tuple_lst, u_list_lst, u_tuple_own, u_list_own, u_rev_tup, u_rev_lst, b_add_int, b_sub_int, b_add_tup, b_add_str, b_add_lst, b_mul_int, b_mod_int, b_fdiv_int, b_eq, b_ne, b_lt_int, b_lt_str, b_le_int, b_le_str, b_gt_int, b_gt_str, b_ge_int, b_ge_str, b_in_tup, b_in_lst, b_nin_tup, b_in_str, b_nin_str, b_is_bl, b_isn_bl, b_ix_tup, b_ix_lst, b_ix_str, eqO_int, eqO_str, eqO_bl, it_tup, it_lst, it_str, intOf_int, zip_tup, zip_lst, rng1_int, rng2_int, cut_tup, cut_lst, set0, setS, bindT1, bindT2, ownK_t, ownK_f, cut_own, b_in_own, b_nin_own, b_nin_lst, b_ix_own, bindP2, ok_pr, sq_lst, sq_own, sq_tup, idx_t, idx_l, idx_o, lam_pur, lam_err, try_pur, try_err, hdR_cons, raise_bnd, enu_tup, sets2, wipe1, wipe2, app_own, frz_own, lstK_lst, isStr_str, enu_lst, map_s, map_n, ofO_n]
abbrev Pr := Wo × Wo
def dP (p : Pr) : D := .tup [.str p.1, .str p.2]
theorem eq_dP {a b : Pr} : D.eq (dP a) (dP b) = (a == b) := by
  unfold dP
  obtain ⟨a1, a2⟩ := a
  obtain ⟨b1, b2⟩ := b
  show D.eqL [.str a1, .str a2] [.str b1, .str b2] = _
  unfold D.eqL D.eqL D.eqL
  rw [eq_ss, eq_ss, Bool.and_true]
  rfl
theorem fit_dP {p : Pr} {n : Nat} : (dP p).fit (n + 1) = true := fit_tup fun d hd => by
  rcases List.mem_cons.mp hd with rfl | hd
  · exact fit_str
  · rw [List.mem_singleton.mp hd]; exact fit_str
theorem fitL_dP {l : List Pr} {n : Nat} : D.fitL (n + 1) (l.map dP) = true := fitL_iff.mpr fun d hd => by
  obtain ⟨p, _, rfl⟩ := List.mem_map.mp hd
  exact fit_dP
theorem any_dP {l : List Pr} {p : Pr} : ((l.map dP).any fun z => z.eq (dP p)) = l.contains p := by
  rw [List.any_map]
  induction l with
  | nil => rfl
  | cons a l ih =>
    rw [List.any_cons, List.contains_cons, ih]
    congr 1
    show D.eq (dP a) (dP p) = _
    rw [eq_dP]
    exact Bool.eq_iff_iff.mpr ⟨fun h => by simpa using (eq_of_beq h).symm, fun h => by simpa using (eq_of_beq h).symm⟩
theorem find_dP {l : List Pr} {p : Pr} : ((l.map dP).findIdx? fun z => z.eq (dP p)) = l.findIdx? fun z => z == p := by
  rw [List.findIdx?_map]
  congr 1
  funext z
  exact eq_dP
def walk (nx : Pr → Pr) : Nat → List Pr → Pr → Option (List Pr × Pr)
  | 0, _, _ => none
  | n + 1, met, p => if met.contains p then some (met, p) else walk nx n (met ++ [p]) (nx p)
theorem nd_len {α : Type} [BEq α] [LawfulBEq α] : ∀ {l P : List α}, l.Nodup → (∀ x ∈ l, x ∈ P) → l.length ≤ P.length
  | [], _, _, _ => Nat.zero_le _
  | x :: l, P, hn, hs => by
    have hx : x ∈ P := hs x (List.mem_cons_self ..)
    obtain ⟨h1, h2⟩ := List.nodup_cons.mp hn
    have ih := nd_len (l := l) (P := P.erase x) h2 fun y hy => by
      have ne : y ≠ x := fun e => h1 (e ▸ hy)
      exact (List.mem_erase_of_ne ne).mpr (hs y (List.mem_cons_of_mem _ hy))
    rw [List.length_erase_of_mem hx] at ih
    have : 0 < P.length := List.length_pos_of_mem hx
    rw [List.length_cons]
    omega
theorem walk_some {nx : Pr → Pr} {P : List Pr} (hnx : ∀ p ∈ P, nx p ∈ P) : ∀ (n : Nat) (met : List Pr) (p : Pr), met.Nodup → (∀ x ∈ met, x ∈ P) → p ∈ P → P.length < met.length + n → ∃ r, walk nx n met p = some r
  | 0, met, p, hn, hs, hp, hl => absurd (nd_len hn hs) (by omega)
  | n + 1, met, p, hn, hs, hp, hl => by
    unfold walk
    by_cases h : met.contains p = true
    · rw [if_pos h]; exact ⟨_, rfl⟩
    · rw [if_neg h]
      have hm : p ∉ met := fun z => h (by simpa using z)
      refine walk_some hnx n _ _ ?_ (fun x hx => ?_) (hnx p hp) (by rw [List.length_append]; simp; omega)
      · rw [List.nodup_append]
        exact ⟨hn, by simp, fun a ha b hb => by rw [List.mem_singleton.mp hb]; exact fun e => hm (e ▸ ha)⟩
      · rcases List.mem_append.mp hx with hx | hx
        · exact hs x hx
        · rw [List.mem_singleton.mp hx]; exact hp
/-- what walk ends with -/
theorem walk_end {nx : Pr → Pr} {I : Pr → Prop} (hnx : ∀ p, I p → I (nx p)) : ∀ (n : Nat) (met : List Pr) (p : Pr) (m' : List Pr) (p' : Pr), I p → walk nx n met p = some (m', p') → m'.length ≤ met.length + n ∧ m'.contains p' = true
  | 0, _, _, _, _, _, h => by cases h
  | n + 1, met, p, m', p', hp, h => by
    unfold walk at h
    by_cases hc : met.contains p = true
    · rw [if_pos hc] at h
      cases h
      exact ⟨by omega, hc⟩
    · rw [if_neg hc] at h
      obtain ⟨h1, h2⟩ := walk_end hnx n _ _ m' p' (hnx p hp) h
      refine ⟨?_, h2⟩
      rw [List.length_append] at h1
      simp at h1
      omega
theorem whl_succ {c : Env → M Bool} {f : Env → M Fl} {n : Nat} {ρ : Env} : whlN c f (n + 1) ρ = bnd (c ρ) fun k => if k then bnd (f ρ) fun r => (match r with
  | .nx ρ' => whlN c f n ρ'
  | .ret x => pur (.ret x)) else pur (.nx ρ) := id rfl
theorem ex_whl {Φ : Fun} {C : Nat → Option D} {ρ : Env} {n : Nat} {c : Ex} {b : Sx} : exS Φ C (.whl n c b) ρ = whlN (fun ρ' => bnd (ev Φ C c ρ') asBl) (fun ρ' => exS Φ C b ρ') n ρ := id rfl
/-- a loop that walks -/
theorem whl_walk {c : Env → M Bool} {f : Env → M Fl} {nx : Pr → Pr} {I : Pr → Prop} (E : List Pr → Pr → Env → Prop) (hc : ∀ met p ρ, I p → E met p ρ → c ρ = pur (!met.contains p))
    (hf : ∀ met p ρ, I p → met.length < 100 → E met p ρ → ∃ ρ', f ρ = pur (.nx ρ') ∧ E (met ++ [p]) (nx p) ρ') (hnx : ∀ p, I p → I (nx p)) :
    ∀ (n : Nat) (met : List Pr) (p : Pr) (m' : List Pr) (p' : Pr) (ρ : Env), I p → met.length + n < 100 → E met p ρ → walk nx n met p = some (m', p') → ∃ ρ', whlN c f n ρ = pur (.nx ρ') ∧ E m' p' ρ' ∧ I p'
  | 0, _, _, _, _, _, _, _, _, h => by cases h
  | n + 1, met, p, m', p', ρ, hp, hl, hE, h => by
    rw [whl_succ, hc met p ρ hp hE, pur_bnd]
    unfold walk at h
    by_cases hm : met.contains p = true
    · rw [if_pos hm] at h
      cases h
      refine ⟨ρ, ?_, hE, hp⟩
      rw [hm]
      rfl
    · rw [if_neg hm] at h
      obtain ⟨ρ', e1, h1⟩ := hf met p ρ hp (by omega) hE
      obtain ⟨ρ'', e2, h2, h3⟩ := whl_walk E hc hf hnx n _ _ m' p' ρ' (hnx p hp) (by rw [List.length_append]; simp; omega) h1 h
      refine ⟨ρ'', ?_, h2, h3⟩
      have hm' : met.contains p = false := by simpa using hm
      rw [hm', e1]
      exact e2
end K04

namespace K04
open Ev
structure OkU (u : Su) : Prop where
  g : Gd u
  is_ : isSetup (dSetup u) = true
  sm_ : sm 4 4 (dSetup u) = true
theorem r5L (k : Nat) {m n : Nat} (hn : n ≤ 60) (ws : List D) (v : D) (hw : D.fitL deep ws = true) (hv : sm m n v = true) : F (k + 1) 5 [.lst ws, v] = pur (.bl (isWord ws v)) := by
  rw [F, runF_at (fd := f5) rfl rfl]
  show bnd (exS _ _ b5 [some (.lst ws), some v]) _ = _
  unfold b5
  have hf : v.fit deep = true := fit_mono hn (sm_fit hv)
  cases v with
  | str s => simp only [ev_var, ev_lit, ev_con, ev_tup, ev_lst, ev_un, ev_bi, ev_ch, ev_not, ev_and, ev_or, ev_ite, ev_cut, ev_call, ev_cel, ev_at0, ev_meth, ev_dct, ev_get2, ev_idx, ev_lam, evL_nil, evL_cons, evO_nil, evO_val, evC_nil, evC_val, itr_val, itr_rng1, itr_rng2, itr_zip, ex_nil, ex_cons, ex_skip, ex_set, ex_own, ex_frz, ex_unp, ex_par, ex_app, ex_put, ex_bad, ex_rse, ex_rsf, ex_try, ex_paro, itr_enu, ex_ret, ex_drop, ex_ite, bnd_assoc, fit_non, fit_bl, fit_int, fit_str, fitL_nil, fitL_cons, eq_ii, eq_ss, eq_bb, List.any_cons, List.any_nil, Bool.or_false, Bool.and_self, Bool.and_true, Bool.true_and, slot0, slotS, ofO_some, some_bnd, pur_bnd, non_bnd, noE_pur, asBl_bl, bnd_ite, if_bl, if_true, if_false, Bool.false_eq_true, Bool.not_true, Bool.not_false, reduceIte, pyAt0, pyAt1, pyAt2, pyAt3, List.getElem?_cons_zero, List.getElem?_cons_succ, u_isStr_non, u_isStr_bl, u_isStr_int, u_isStr_str, u_isStr_tup, u_isStr_lst, u_isStr_own, u_isTup_non, u_isTup_bl, u_isTup_int, u_isTup_str, u_isTup_tup, u_isTup_lst, u_isTup_own, u_isInt_non, u_isInt_bl, u_isInt_int, u_isInt_str, u_isInt_tup, u_isInt_lst, u_isInt_own, u_isBl_non, u_isBl_bl, u_isBl_int, u_isBl_str, u_isBl_tup, u_isBl_lst, u_isBl_own, u_isLst_non, u_isLst_bl, u_isLst_int, u_isLst_str, u_isLst_tup, u_isLst_lst, u_isLst_own, ok_non, ok_bl, ok_int, ok_str, ok_tup, ok_lst, ok_own, ok_ref, u_len_str, u_len_tup, u_len_lst, u_len_own, u_int_int, u_neg_int, u_tuple_tup, u_list_tup, u_tuple_lst, u_list_lst, u_tuple_own, u_list_own, u_rev_tup, u_rev_lst, b_add_int, b_sub_int, b_add_tup, b_add_str, b_add_lst, b_mul_int, b_mod_int, b_fdiv_int, b_eq, b_ne, b_lt_int, b_lt_str, b_le_int, b_le_str, b_gt_int, b_gt_str, b_ge_int, b_ge_str, b_in_tup, b_in_lst, b_nin_tup, b_in_str, b_nin_str, b_is_bl, b_isn_bl, b_ix_tup, b_ix_lst, b_ix_str, eqO_int, eqO_str, eqO_bl, it_tup, it_lst, it_str, intOf_int, zip_tup, zip_lst, rng1_int, rng2_int, cut_tup, cut_lst, set0, setS, bindT1, bindT2, ownK_t, ownK_f, cut_own, b_in_own, b_nin_own, b_nin_lst, b_ix_own, bindP2, ok_pr, sq_lst, sq_own, sq_tup, idx_t, idx_l, idx_o, lam_pur, lam_err, try_pur, try_err, hdR_cons, raise_bnd, enu_tup, sets2, wipe1, wipe2, app_own, frz_own, lstK_lst, isStr_str, enu_lst, map_s, map_n, ofO_n, hw, isWord, isStrD]
  | own l => cases n <;> cases hv
  | ref l => cases n <;> cases hv
  | pr a b => cases n <;> cases hv
  | _ => rfl
theorem r9s (k : Nat) {u : Su} (o : OkU u) : F (k + 5) 9 [dSetup u] = pur .non := by
  rw [F, runF_at (fd := f9) rfl rfl]
  show bnd (exS _ _ b9 [some (dSetup u)]) _ = _
  unfold b9
  simp only [r8 k (by omega) (dSetup u) o.sm_, o.is_, ok_setup, ev_var, ev_lit, ev_con, ev_tup, ev_lst, ev_un, ev_bi, ev_ch, ev_not, ev_and, ev_or, ev_ite, ev_cut, ev_call, ev_cel, ev_at0, ev_meth, ev_dct, ev_get2, ev_idx, ev_lam, evL_nil, evL_cons, evO_nil, evO_val, evC_nil, evC_val, itr_val, itr_rng1, itr_rng2, itr_zip, ex_nil, ex_cons, ex_skip, ex_set, ex_own, ex_frz, ex_unp, ex_par, ex_app, ex_put, ex_bad, ex_rse, ex_rsf, ex_try, ex_paro, itr_enu, ex_ret, ex_drop, ex_ite, bnd_assoc, fit_non, fit_bl, fit_int, fit_str, fitL_nil, fitL_cons, eq_ii, eq_ss, eq_bb, List.any_cons, List.any_nil, Bool.or_false, Bool.and_self, Bool.and_true, Bool.true_and, slot0, slotS, ofO_some, some_bnd, pur_bnd, non_bnd, noE_pur, asBl_bl, bnd_ite, if_bl, if_true, if_false, Bool.false_eq_true, Bool.not_true, Bool.not_false, reduceIte, pyAt0, pyAt1, pyAt2, pyAt3, List.getElem?_cons_zero, List.getElem?_cons_succ, u_isStr_non, u_isStr_bl, u_isStr_int, u_isStr_str, u_isStr_tup, u_isStr_lst, u_isStr_own, u_isTup_non, u_isTup_bl, u_isTup_int, u_isTup_str, u_isTup_tup, u_isTup_lst, u_isTup_own, u_isInt_non, u_isInt_bl, u_isInt_int, u_isInt_str, u_isInt_tup, u_isInt_lst, u_isInt_own, u_isBl_non, u_isBl_bl, u_isBl_int, u_isBl_str, u_isBl_tup, u_isBl_lst, u_isBl_own, u_isLst_non, u_isLst_bl, u_isLst_int, u_isLst_str, u_isLst_tup, u_isLst_lst, u_isLst_own, ok_non, ok_bl, ok_int, ok_str, ok_tup, ok_lst, ok_own, ok_ref, u_len_str, u_len_tup, u_len_lst, u_len_own, u_int_int, u_neg_int, u_tuple_tup, u_list_tup, u_tuple_lst, u_list_lst, u_tuple_own, u_list_own, u_rev_tup, u_rev_lst, b_add_int, b_sub_int, b_add_tup, b_add_str, b_add_lst, b_mul_int, b_mod_int, b_fdiv_int, b_eq, b_ne, b_lt_int, b_lt_str, b_le_int, b_le_str, b_gt_int, b_gt_str, b_ge_int, b_ge_str, b_in_tup, b_in_lst, b_nin_tup, b_in_str, b_nin_str, b_is_bl, b_isn_bl, b_ix_tup, b_ix_lst, b_ix_str, eqO_int, eqO_str, eqO_bl, it_tup, it_lst, it_str, intOf_int, zip_tup, zip_lst, rng1_int, rng2_int, cut_tup, cut_lst, set0, setS, bindT1, bindT2, ownK_t, ownK_f, cut_own, b_in_own, b_nin_own, b_nin_lst, b_ix_own, bindP2, ok_pr, sq_lst, sq_own, sq_tup, idx_t, idx_l, idx_o, lam_pur, lam_err, try_pur, try_err, hdR_cons, raise_bnd, enu_tup, sets2, wipe1, wipe2, app_own, frz_own, lstK_lst, isStr_str, enu_lst, map_s, map_n, ofO_n]
abbrev sides : List D := [.str wLeft, .str wRight]
theorem strs_fit {ws : List Wo} {n : Nat} : D.fitL n (ws.map D.str) = true := fitL_iff.mpr fun d hd => by
  obtain ⟨w, _, rfl⟩ := List.mem_map.mp hd
  exact fit_str
theorem r10s (k : Nat) {m n : Nat} (hn : n ≤ 60) {v : D} (hv : sm m n v = true) : F (k + 2) 10 [v] = if isWord sides v then pur .non else raise ⟨2, none⟩ := by
  rw [F, runF_at (fd := f10) rfl rfl]
  show bnd (exS _ _ b10 [some v]) _ = _
  unfold b10
  have q := r5 k hn sides v (strs_fit (ws := [wLeft, wRight])) hv
  simp only [conS, q, sm_ok hv, ev_var, ev_lit, ev_con, ev_tup, ev_lst, ev_un, ev_bi, ev_ch, ev_not, ev_and, ev_or, ev_ite, ev_cut, ev_call, ev_cel, ev_at0, ev_meth, ev_dct, ev_get2, ev_idx, ev_lam, evL_nil, evL_cons, evO_nil, evO_val, evC_nil, evC_val, itr_val, itr_rng1, itr_rng2, itr_zip, ex_nil, ex_cons, ex_skip, ex_set, ex_own, ex_frz, ex_unp, ex_par, ex_app, ex_put, ex_bad, ex_rse, ex_rsf, ex_try, ex_paro, itr_enu, ex_ret, ex_drop, ex_ite, bnd_assoc, fit_non, fit_bl, fit_int, fit_str, fitL_nil, fitL_cons, eq_ii, eq_ss, eq_bb, List.any_cons, List.any_nil, Bool.or_false, Bool.and_self, Bool.and_true, Bool.true_and, slot0, slotS, ofO_some, some_bnd, pur_bnd, non_bnd, noE_pur, asBl_bl, bnd_ite, if_bl, if_true, if_false, Bool.false_eq_true, Bool.not_true, Bool.not_false, reduceIte, pyAt0, pyAt1, pyAt2, pyAt3, List.getElem?_cons_zero, List.getElem?_cons_succ, u_isStr_non, u_isStr_bl, u_isStr_int, u_isStr_str, u_isStr_tup, u_isStr_lst, u_isStr_own, u_isTup_non, u_isTup_bl, u_isTup_int, u_isTup_str, u_isTup_tup, u_isTup_lst, u_isTup_own, u_isInt_non, u_isInt_bl, u_isInt_int, u_isInt_str, u_isInt_tup, u_isInt_lst, u_isInt_own, u_isBl_non, u_isBl_bl, u_isBl_int, u_isBl_str, u_isBl_tup, u_isBl_lst, u_isBl_own, u_isLst_non, u_isLst_bl, u_isLst_int, u_isLst_str, u_isLst_tup, u_isLst_lst, u_isLst_own, ok_non, ok_bl, ok_int, ok_str, ok_tup, ok_lst, ok_own, ok_ref, u_len_str, u_len_tup, u_len_lst, u_len_own, u_int_int, u_neg_int, u_tuple_tup, u_list_tup, u_tuple_lst, u_list_lst, u_tuple_own, u_list_own, u_rev_tup, u_rev_lst, b_add_int, b_sub_int, b_add_tup, b_add_str, b_add_lst, b_mul_int, b_mod_int, b_fdiv_int, b_eq, b_ne, b_lt_int, b_lt_str, b_le_int, b_le_str, b_gt_int, b_gt_str, b_ge_int, b_ge_str, b_in_tup, b_in_lst, b_nin_tup, b_in_str, b_nin_str, b_is_bl, b_isn_bl, b_ix_tup, b_ix_lst, b_ix_str, eqO_int, eqO_str, eqO_bl, it_tup, it_lst, it_str, intOf_int, zip_tup, zip_lst, rng1_int, rng2_int, cut_tup, cut_lst, set0, setS, bindT1, bindT2, ownK_t, ownK_f, cut_own, b_in_own, b_nin_own, b_nin_lst, b_ix_own, bindP2, ok_pr, sq_lst, sq_own, sq_tup, idx_t, idx_l, idx_o, lam_pur, lam_err, try_pur, try_err, hdR_cons, raise_bnd, enu_tup, sets2, wipe1, wipe2, app_own, frz_own, lstK_lst, isStr_str, enu_lst, map_s, map_n, ofO_n]
  cases isWord sides v <;> rfl
theorem isWord_str {ws : List Wo} {w : Wo} : isWord (ws.map D.str) (.str w) = ws.contains w := by
  show (true && _) = _
  rw [Bool.true_and]
  induction ws with
  | nil => rfl
  | cons a ws ih =>
    rw [List.map_cons, List.any_cons, List.contains_cons, ih, eq_ss]
    congr 1
    exact Bool.eq_iff_iff.mpr ⟨fun h => by simpa using (eq_of_beq h).symm, fun h => by simpa using (eq_of_beq h).symm⟩
theorem side_word {w : Wo} (h : isSd w) : isWord sides (.str w) = true := by
  rcases h with rfl | rfl <;> decide +kernel
theorem climbs_lt {ss : List Wo} (h : climbs ss = true) : ∀ (j i : Nat), i < j → j < ss.length → ss.getD i [] < ss.getD j []
  | 0, i, hij, _ => absurd hij (by omega)
  | j + 1, i, hij, hj => by
    have h1 : ss.getD j [] < ss.getD (j + 1) [] := by
      have := List.all_eq_true.mp h j (List.mem_range.mpr (by omega))
      exact of_decide_eq_true this
    by_cases e : i = j
    · rw [e]; exact h1
    · exact List.lt_trans (climbs_lt h j i (by omega) (by omega)) h1
theorem climbs_idx {ss : List Wo} (h : climbs ss = true) {i : Nat} {s : Wo} (hi : ss[i]? = some s) : ss.findIdx? (fun z => z == s) = some i := by
  obtain ⟨hl, e⟩ := List.getElem?_eq_some_iff.mp hi
  rw [List.findIdx?_eq_some_iff_getElem]
  refine ⟨hl, by simpa using e, fun j hj => ?_⟩
  have := climbs_lt h i j hj hl
  rw [List.getD_eq_getElem?_getD, List.getD_eq_getElem?_getD, List.getElem?_eq_getElem hl, List.getElem?_eq_getElem (show j < ss.length by omega)] at this
  simp only [Option.getD_some] at this
  intro z
  have z : ss[j] = s := by simpa using z
  rw [z, e] at this
  exact List.lt_irrefl _ this
theorem names_ev {Φ : Fun} (u : Su) (o1 o2 o3 : Option D) : ev Φ T.C (.comp [3] .nil (.bi .ix (.var 3) (.lit (.int 0))) (.val (.bi .ix (.var 0) (.lit (.int 0))))) [some (dSetup u), o1, o2, o3] = pur (.lst ((u.fs.map (·.1)).map .str)) := by
  have a3 : bop .ix (dSetup u) (.int 0) = some (.tup (u.fs.map dField)) := rfl
  rw [ev_comp_map u.fs dField (fun f => .str f.1), List.map_map]
  · rfl
  · simp only [a3, ev_var, ev_lit, ev_con, ev_tup, ev_lst, ev_un, ev_bi, ev_ch, ev_not, ev_and, ev_or, ev_ite, ev_cut, ev_call, ev_cel, ev_at0, ev_meth, ev_dct, ev_get2, ev_idx, ev_lam, evL_nil, evL_cons, evO_nil, evO_val, evC_nil, evC_val, itr_val, itr_rng1, itr_rng2, itr_zip, ex_nil, ex_cons, ex_skip, ex_set, ex_own, ex_frz, ex_unp, ex_par, ex_app, ex_put, ex_bad, ex_rse, ex_rsf, ex_try, ex_paro, itr_enu, ex_ret, ex_drop, ex_ite, bnd_assoc, fit_non, fit_bl, fit_int, fit_str, fitL_nil, fitL_cons, eq_ii, eq_ss, eq_bb, List.any_cons, List.any_nil, Bool.or_false, Bool.and_self, Bool.and_true, Bool.true_and, slot0, slotS, ofO_some, some_bnd, pur_bnd, non_bnd, noE_pur, asBl_bl, bnd_ite, if_bl, if_true, if_false, Bool.false_eq_true, Bool.not_true, Bool.not_false, reduceIte, pyAt0, pyAt1, pyAt2, pyAt3, List.getElem?_cons_zero, List.getElem?_cons_succ, u_isStr_non, u_isStr_bl, u_isStr_int, u_isStr_str, u_isStr_tup, u_isStr_lst, u_isStr_own, u_isTup_non, u_isTup_bl, u_isTup_int, u_isTup_str, u_isTup_tup, u_isTup_lst, u_isTup_own, u_isInt_non, u_isInt_bl, u_isInt_int, u_isInt_str, u_isInt_tup, u_isInt_lst, u_isInt_own, u_isBl_non, u_isBl_bl, u_isBl_int, u_isBl_str, u_isBl_tup, u_isBl_lst, u_isBl_own, u_isLst_non, u_isLst_bl, u_isLst_int, u_isLst_str, u_isLst_tup, u_isLst_lst, u_isLst_own, ok_non, ok_bl, ok_int, ok_str, ok_tup, ok_lst, ok_own, ok_ref, u_len_str, u_len_tup, u_len_lst, u_len_own, u_int_int, u_neg_int, u_tuple_tup, u_list_tup, u_tuple_lst, u_list_lst, u_tuple_own, u_list_own, u_rev_tup, u_rev_lst, b_add_int, b_sub_int, b_add_tup, b_add_str, b_add_lst, b_mul_int, b_mod_int, b_fdiv_int, b_eq, b_ne, b_lt_int, b_lt_str, b_le_int, b_le_str, b_gt_int, b_gt_str, b_ge_int, b_ge_str, b_in_tup, b_in_lst, b_nin_tup, b_in_str, b_nin_str, b_is_bl, b_isn_bl, b_ix_tup, b_ix_lst, b_ix_str, eqO_int, eqO_str, eqO_bl, it_tup, it_lst, it_str, intOf_int, zip_tup, zip_lst, rng1_int, rng2_int, cut_tup, cut_lst, set0, setS, bindT1, bindT2, ownK_t, ownK_f, cut_own, b_in_own, b_nin_own, b_nin_lst, b_ix_own, bindP2, ok_pr, sq_lst, sq_own, sq_tup, idx_t, idx_l, idx_o, lam_pur, lam_err, try_pur, try_err, hdR_cons, raise_bnd, enu_tup, sets2, wipe1, wipe2, app_own, frz_own, lstK_lst, isStr_str, enu_lst, map_s, map_n, ofO_n]
  · intro f hf
    have a5 : bop .ix (dField f) (.int 0) = some (.str f.1) := rfl
    simp only [a5, ev_var, ev_lit, ev_con, ev_tup, ev_lst, ev_un, ev_bi, ev_ch, ev_not, ev_and, ev_or, ev_ite, ev_cut, ev_call, ev_cel, ev_at0, ev_meth, ev_dct, ev_get2, ev_idx, ev_lam, evL_nil, evL_cons, evO_nil, evO_val, evC_nil, evC_val, itr_val, itr_rng1, itr_rng2, itr_zip, ex_nil, ex_cons, ex_skip, ex_set, ex_own, ex_frz, ex_unp, ex_par, ex_app, ex_put, ex_bad, ex_rse, ex_rsf, ex_try, ex_paro, itr_enu, ex_ret, ex_drop, ex_ite, bnd_assoc, fit_non, fit_bl, fit_int, fit_str, fitL_nil, fitL_cons, eq_ii, eq_ss, eq_bb, List.any_cons, List.any_nil, Bool.or_false, Bool.and_self, Bool.and_true, Bool.true_and, slot0, slotS, ofO_some, some_bnd, pur_bnd, non_bnd, noE_pur, asBl_bl, bnd_ite, if_bl, if_true, if_false, Bool.false_eq_true, Bool.not_true, Bool.not_false, reduceIte, pyAt0, pyAt1, pyAt2, pyAt3, List.getElem?_cons_zero, List.getElem?_cons_succ, u_isStr_non, u_isStr_bl, u_isStr_int, u_isStr_str, u_isStr_tup, u_isStr_lst, u_isStr_own, u_isTup_non, u_isTup_bl, u_isTup_int, u_isTup_str, u_isTup_tup, u_isTup_lst, u_isTup_own, u_isInt_non, u_isInt_bl, u_isInt_int, u_isInt_str, u_isInt_tup, u_isInt_lst, u_isInt_own, u_isBl_non, u_isBl_bl, u_isBl_int, u_isBl_str, u_isBl_tup, u_isBl_lst, u_isBl_own, u_isLst_non, u_isLst_bl, u_isLst_int, u_isLst_str, u_isLst_tup, u_isLst_lst, u_isLst_own, ok_non, ok_bl, ok_int, ok_str, ok_tup, ok_lst, ok_own, ok_ref, u_len_str, u_len_tup, u_len_lst, u_len_own, u_int_int, u_neg_int, u_tuple_tup, u_list_tup, u_tuple_lst, u_list_lst, u_tuple_own, u_list_own, u_rev_tup, u_rev_lst, b_add_int, b_sub_int, b_add_tup, b_add_str, b_add_lst, b_mul_int, b_mod_int, b_fdiv_int, b_eq, b_ne, b_lt_int, b_lt_str, b_le_int, b_le_str, b_gt_int, b_gt_str, b_ge_int, b_ge_str, b_in_tup, b_in_lst, b_nin_tup, b_in_str, b_nin_str, b_is_bl, b_isn_bl, b_ix_tup, b_ix_lst, b_ix_str, eqO_int, eqO_str, eqO_bl, it_tup, it_lst, it_str, intOf_int, zip_tup, zip_lst, rng1_int, rng2_int, cut_tup, cut_lst, set0, setS, bindT1, bindT2, ownK_t, ownK_f, cut_own, b_in_own, b_nin_own, b_nin_lst, b_ix_own, bindP2, ok_pr, sq_lst, sq_own, sq_tup, idx_t, idx_l, idx_o, lam_pur, lam_err, try_pur, try_err, hdR_cons, raise_bnd, enu_tup, sets2, wipe1, wipe2, app_own, frz_own, lstK_lst, isStr_str, enu_lst, map_s, map_n, ofO_n]
theorem r11s (k : Nat) {m n : Nat} (hn : n ≤ 60) {u : Su} {v : D} (hv : sm m n v = true) (hb : isWord ((u.fs.map (·.1)).map D.str) v = false) : F (k + 2) 11 [dSetup u, v] = raise ⟨3, none⟩ := by
  rw [F, runF_at (fd := f11) rfl rfl]
  show bnd (exS _ _ b11 [some (dSetup u), some v, none, none]) _ = _
  unfold b11
  have q := r5L k hn ((u.fs.map (·.1)).map D.str) v strs_fit hv
  simp only [names_ev, q, hb, sm_ok hv, ev_var, ev_lit, ev_con, ev_tup, ev_lst, ev_un, ev_bi, ev_ch, ev_not, ev_and, ev_or, ev_ite, ev_cut, ev_call, ev_cel, ev_at0, ev_meth, ev_dct, ev_get2, ev_idx, ev_lam, evL_nil, evL_cons, evO_nil, evO_val, evC_nil, evC_val, itr_val, itr_rng1, itr_rng2, itr_zip, ex_nil, ex_cons, ex_skip, ex_set, ex_own, ex_frz, ex_unp, ex_par, ex_app, ex_put, ex_bad, ex_rse, ex_rsf, ex_try, ex_paro, itr_enu, ex_ret, ex_drop, ex_ite, bnd_assoc, fit_non, fit_bl, fit_int, fit_str, fitL_nil, fitL_cons, eq_ii, eq_ss, eq_bb, List.any_cons, List.any_nil, Bool.or_false, Bool.and_self, Bool.and_true, Bool.true_and, slot0, slotS, ofO_some, some_bnd, pur_bnd, non_bnd, noE_pur, asBl_bl, bnd_ite, if_bl, if_true, if_false, Bool.false_eq_true, Bool.not_true, Bool.not_false, reduceIte, pyAt0, pyAt1, pyAt2, pyAt3, List.getElem?_cons_zero, List.getElem?_cons_succ, u_isStr_non, u_isStr_bl, u_isStr_int, u_isStr_str, u_isStr_tup, u_isStr_lst, u_isStr_own, u_isTup_non, u_isTup_bl, u_isTup_int, u_isTup_str, u_isTup_tup, u_isTup_lst, u_isTup_own, u_isInt_non, u_isInt_bl, u_isInt_int, u_isInt_str, u_isInt_tup, u_isInt_lst, u_isInt_own, u_isBl_non, u_isBl_bl, u_isBl_int, u_isBl_str, u_isBl_tup, u_isBl_lst, u_isBl_own, u_isLst_non, u_isLst_bl, u_isLst_int, u_isLst_str, u_isLst_tup, u_isLst_lst, u_isLst_own, ok_non, ok_bl, ok_int, ok_str, ok_tup, ok_lst, ok_own, ok_ref, u_len_str, u_len_tup, u_len_lst, u_len_own, u_int_int, u_neg_int, u_tuple_tup, u_list_tup, u_tuple_lst, u_list_lst, u_tuple_own, u_list_own, u_rev_tup, u_rev_lst, b_add_int, b_sub_int, b_add_tup, b_add_str, b_add_lst, b_mul_int, b_mod_int, b_fdiv_int, b_eq, b_ne, b_lt_int, b_lt_str, b_le_int, b_le_str, b_gt_int, b_gt_str, b_ge_int, b_ge_str, b_in_tup, b_in_lst, b_nin_tup, b_in_str, b_nin_str, b_is_bl, b_isn_bl, b_ix_tup, b_ix_lst, b_ix_str, eqO_int, eqO_str, eqO_bl, it_tup, it_lst, it_str, intOf_int, zip_tup, zip_lst, rng1_int, rng2_int, cut_tup, cut_lst, set0, setS, bindT1, bindT2, ownK_t, ownK_f, cut_own, b_in_own, b_nin_own, b_nin_lst, b_ix_own, bindP2, ok_pr, sq_lst, sq_own, sq_tup, idx_t, idx_l, idx_o, lam_pur, lam_err, try_pur, try_err, hdR_cons, raise_bnd, enu_tup, sets2, wipe1, wipe2, app_own, frz_own, lstK_lst, isStr_str, enu_lst, map_s, map_n, ofO_n]
theorem r11g (k : Nat) {u : Su} (g : Gd u) {i : Nat} {f : Wo × List Wo} (hf : u.fs[i]? = some f) : F (k + 2) 11 [dSetup u, .str f.1] = pur (.int (i : Int)) := by
  rw [F, runF_at (fd := f11) rfl rfl]
  show bnd (exS _ _ b11 [some (dSetup u), some (.str f.1), none, none]) _ = _
  unfold b11
  have q := r5L k (m := 4) (n := 0) (by omega) ((u.fs.map (·.1)).map D.str) (.str f.1) strs_fit rfl
  have hm : (u.fs.map (·.1)).contains f.1 = true := by
    have : f ∈ u.fs := List.mem_of_getElem? hf
    simp only [List.contains_iff_mem]
    exact List.mem_map.mpr ⟨f, this, rfl⟩
  have hi : (u.fs.map (·.1)).findIdx? (fun z => z == f.1) = some i := climbs_idx g.cn (by rw [List.getElem?_map, hf]; rfl)
  have hi2 : ((u.fs.map (·.1)).map D.str).findIdx? (fun z => z.eq (.str f.1)) = some i := by
    rw [List.findIdx?_map, ← hi]
    congr 1
  rw [isWord_str, hm] at q
  simp only [names_ev, q, hi2, strs_fit, idx_l, ev_var, ev_lit, ev_con, ev_tup, ev_lst, ev_un, ev_bi, ev_ch, ev_not, ev_and, ev_or, ev_ite, ev_cut, ev_call, ev_cel, ev_at0, ev_meth, ev_dct, ev_get2, ev_idx, ev_lam, evL_nil, evL_cons, evO_nil, evO_val, evC_nil, evC_val, itr_val, itr_rng1, itr_rng2, itr_zip, ex_nil, ex_cons, ex_skip, ex_set, ex_own, ex_frz, ex_unp, ex_par, ex_app, ex_put, ex_bad, ex_rse, ex_rsf, ex_try, ex_paro, itr_enu, ex_ret, ex_drop, ex_ite, bnd_assoc, fit_non, fit_bl, fit_int, fit_str, fitL_nil, fitL_cons, eq_ii, eq_ss, eq_bb, List.any_cons, List.any_nil, Bool.or_false, Bool.and_self, Bool.and_true, Bool.true_and, slot0, slotS, ofO_some, some_bnd, pur_bnd, non_bnd, noE_pur, asBl_bl, bnd_ite, if_bl, if_true, if_false, Bool.false_eq_true, Bool.not_true, Bool.not_false, reduceIte, pyAt0, pyAt1, pyAt2, pyAt3, List.getElem?_cons_zero, List.getElem?_cons_succ, u_isStr_non, u_isStr_bl, u_isStr_int, u_isStr_str, u_isStr_tup, u_isStr_lst, u_isStr_own, u_isTup_non, u_isTup_bl, u_isTup_int, u_isTup_str, u_isTup_tup, u_isTup_lst, u_isTup_own, u_isInt_non, u_isInt_bl, u_isInt_int, u_isInt_str, u_isInt_tup, u_isInt_lst, u_isInt_own, u_isBl_non, u_isBl_bl, u_isBl_int, u_isBl_str, u_isBl_tup, u_isBl_lst, u_isBl_own, u_isLst_non, u_isLst_bl, u_isLst_int, u_isLst_str, u_isLst_tup, u_isLst_lst, u_isLst_own, ok_non, ok_bl, ok_int, ok_str, ok_tup, ok_lst, ok_own, ok_ref, u_len_str, u_len_tup, u_len_lst, u_len_own, u_int_int, u_neg_int, u_tuple_tup, u_list_tup, u_tuple_lst, u_list_lst, u_tuple_own, u_list_own, u_rev_tup, u_rev_lst, b_add_int, b_sub_int, b_add_tup, b_add_str, b_add_lst, b_mul_int, b_mod_int, b_fdiv_int, b_eq, b_ne, b_lt_int, b_lt_str, b_le_int, b_le_str, b_gt_int, b_gt_str, b_ge_int, b_ge_str, b_in_tup, b_in_lst, b_nin_tup, b_in_str, b_nin_str, b_is_bl, b_isn_bl, b_ix_tup, b_ix_lst, b_ix_str, eqO_int, eqO_str, eqO_bl, it_tup, it_lst, it_str, intOf_int, zip_tup, zip_lst, rng1_int, rng2_int, cut_tup, cut_lst, set0, setS, bindT1, bindT2, ownK_t, ownK_f, cut_own, b_in_own, b_nin_own, b_nin_lst, b_ix_own, bindP2, ok_pr, sq_lst, sq_own, sq_tup, idx_t, idx_l, idx_o, lam_pur, lam_err, try_pur, try_err, hdR_cons, raise_bnd, enu_tup, sets2, wipe1, wipe2, app_own, frz_own, lstK_lst, isStr_str, enu_lst, map_s, map_n, ofO_n]
theorem r12s (k : Nat) {m n : Nat} (hn : n ≤ 60) {u : Su} {i : Nat} {f : Wo × List Wo} (hf : u.fs[i]? = some f) {v : D} (hv : sm m n v = true) : F (k + 2) 12 [dSetup u, .int (i : Int), v] = if isWord (f.2.map D.str) v then pur .non else raise ⟨4, none⟩ := by
  rw [F, runF_at (fd := f12) rfl rfl]
  show bnd (exS _ _ b12 [some (dSetup u), some (.int (i : Int)), some v]) _ = _
  unfold b12
  have a3 : bop .ix (dSetup u) (.int 0) = some (.tup (u.fs.map dField)) := rfl
  have a4 : bop .ix (.tup (u.fs.map dField)) (.int (i : Int)) = some (dField f) := by rw [b_ix_tup]; exact at_mapN hf
  have a5 : bop .ix (dField f) (.int 1) = some (.tup (f.2.map .str)) := rfl
  have q := r5 k hn (f.2.map D.str) v strs_fit hv
  simp only [a3, a4, a5, q, sm_ok hv, ev_var, ev_lit, ev_con, ev_tup, ev_lst, ev_un, ev_bi, ev_ch, ev_not, ev_and, ev_or, ev_ite, ev_cut, ev_call, ev_cel, ev_at0, ev_meth, ev_dct, ev_get2, ev_idx, ev_lam, evL_nil, evL_cons, evO_nil, evO_val, evC_nil, evC_val, itr_val, itr_rng1, itr_rng2, itr_zip, ex_nil, ex_cons, ex_skip, ex_set, ex_own, ex_frz, ex_unp, ex_par, ex_app, ex_put, ex_bad, ex_rse, ex_rsf, ex_try, ex_paro, itr_enu, ex_ret, ex_drop, ex_ite, bnd_assoc, fit_non, fit_bl, fit_int, fit_str, fitL_nil, fitL_cons, eq_ii, eq_ss, eq_bb, List.any_cons, List.any_nil, Bool.or_false, Bool.and_self, Bool.and_true, Bool.true_and, slot0, slotS, ofO_some, some_bnd, pur_bnd, non_bnd, noE_pur, asBl_bl, bnd_ite, if_bl, if_true, if_false, Bool.false_eq_true, Bool.not_true, Bool.not_false, reduceIte, pyAt0, pyAt1, pyAt2, pyAt3, List.getElem?_cons_zero, List.getElem?_cons_succ, u_isStr_non, u_isStr_bl, u_isStr_int, u_isStr_str, u_isStr_tup, u_isStr_lst, u_isStr_own, u_isTup_non, u_isTup_bl, u_isTup_int, u_isTup_str, u_isTup_tup, u_isTup_lst, u_isTup_own, u_isInt_non, u_isInt_bl, u_isInt_int, u_isInt_str, u_isInt_tup, u_isInt_lst, u_isInt_own, u_isBl_non, u_isBl_bl, u_isBl_int, u_isBl_str, u_isBl_tup, u_isBl_lst, u_isBl_own, u_isLst_non, u_isLst_bl, u_isLst_int, u_isLst_str, u_isLst_tup, u_isLst_lst, u_isLst_own, ok_non, ok_bl, ok_int, ok_str, ok_tup, ok_lst, ok_own, ok_ref, u_len_str, u_len_tup, u_len_lst, u_len_own, u_int_int, u_neg_int, u_tuple_tup, u_list_tup, u_tuple_lst, u_list_lst, u_tuple_own, u_list_own, u_rev_tup, u_rev_lst, b_add_int, b_sub_int, b_add_tup, b_add_str, b_add_lst, b_mul_int, b_mod_int, b_fdiv_int, b_eq, b_ne, b_lt_int, b_lt_str, b_le_int, b_le_str, b_gt_int, b_gt_str, b_ge_int, b_ge_str, b_in_tup, b_in_lst, b_nin_tup, b_in_str, b_nin_str, b_is_bl, b_isn_bl, b_ix_tup, b_ix_lst, b_ix_str, eqO_int, eqO_str, eqO_bl, it_tup, it_lst, it_str, intOf_int, zip_tup, zip_lst, rng1_int, rng2_int, cut_tup, cut_lst, set0, setS, bindT1, bindT2, ownK_t, ownK_f, cut_own, b_in_own, b_nin_own, b_nin_lst, b_ix_own, bindP2, ok_pr, sq_lst, sq_own, sq_tup, idx_t, idx_l, idx_o, lam_pur, lam_err, try_pur, try_err, hdR_cons, raise_bnd, enu_tup, sets2, wipe1, wipe2, app_own, frz_own, lstK_lst, isStr_str, enu_lst, map_s, map_n, ofO_n]
  cases isWord (f.2.map D.str) v <;> rfl
def rowAt (u : Su) (w : Wo) (i : Nat) : List Wo := (sd u w).rows.getD i []
theorem fi_at {u : Su} (g : Gd u) (w : Wo) {i : Nat} {f : Wo × List Wo} (h : u.fs[i]? = some f) : Fi u w i f (rowAt u w i) := by
  obtain ⟨row, hr⟩ := fi_of g w h
  have : rowAt u w i = row := by
    unfold rowAt
    rw [List.getD_eq_getElem?_getD, hr.r]; rfl
  rw [this]; exact hr
def nx (u : Su) (i : Nat) (f : Wo × List Wo) (p : Pr) : Pr := (oth p.1, stW f.2 (rowAt u (oth p.1) i) p.2)
def inI (f : Wo × List Wo) (p : Pr) : Prop := isSd p.1 ∧ p.2 ∈ f.2
theorem nx_in {u : Su} (g : Gd u) {i : Nat} {f : Wo × List Wo} (h : u.fs[i]? = some f) (p : Pr) (hp : inI f p) : inI f (nx u i f p) :=
  ⟨oth_sd, st_mem g (fi_at g _ h) hp.2⟩
def Ps (f : Wo × List Wo) : List Pr := (f.2.map fun v => (wLeft, v)) ++ f.2.map fun v => (wRight, v)
theorem in_Ps {f : Wo × List Wo} {p : Pr} : p ∈ Ps f ↔ inI f p := by
  unfold Ps inI isSd
  obtain ⟨w, v⟩ := p
  simp only [List.mem_append, List.mem_map, Prod.mk.injEq]
  constructor
  · rintro (⟨a, ha, e1, e2⟩ | ⟨a, ha, e1, e2⟩)
    · exact ⟨.inl e1.symm, e2 ▸ ha⟩
    · exact ⟨.inr e1.symm, e2 ▸ ha⟩
  · rintro ⟨rfl | rfl, h⟩
    · exact .inl ⟨v, h, rfl, rfl⟩
    · exact .inr ⟨v, h, rfl, rfl⟩
theorem walk_at {u : Su} (g : Gd u) {i : Nat} {f : Wo × List Wo} (h : u.fs[i]? = some f) {p : Pr} (hp : inI f p) : ∃ m p', walk (nx u i f) 20 [] p = some (m, p') ∧ m.length ≤ 20 ∧ m.contains p' = true := by
  obtain ⟨⟨m, p'⟩, e⟩ := walk_some (nx := nx u i f) (P := Ps f) (fun p hp => in_Ps.mpr (nx_in g h p (in_Ps.mp hp))) 20 [] p List.nodup_nil (fun x hx => by cases hx) (in_Ps.mpr hp) (by
    have := (g.fs f (List.mem_of_getElem? h)).2.2.1
    unfold Ps
    simp
    omega)
  obtain ⟨h1, h2⟩ := walk_end (I := inI f) (fun p hp => nx_in g h p hp) 20 [] p m p' hp e
  exact ⟨m, p', e, by simpa using h1, h2⟩
def echD (m : List Pr) (p : Pr) : D := .tup [.lst ((pyCut m none (some (m.findIdx fun z => z == p : Nat))).map fun q => .str q.2), .lst ((pyCut m (some (m.findIdx fun z => z == p : Nat)) none).map fun q => .str q.2)]
def ech (u : Su) (i : Nat) (f : Wo × List Wo) (w : Wo) (v : Wo) : D := match walk (nx u i f) 20 [] (w, stW f.2 (rowAt u w i) v) with
  | some (m, p) => echD m p
  | none => .non
theorem cut_map {α β : Type} {l : List α} {g : α → β} {lo hi : Option Int} : pyCut (l.map g) lo hi = (pyCut l lo hi).map g := by
  unfold pyCut
  rw [List.length_map, List.map_take, List.map_drop]
theorem idx_dP {m : List Pr} {p : Pr} (h : m.contains p = true) : idxO false (.own (m.map dP)) (dP p) = some (.int (m.findIdx (fun z => z == p) : Nat)) := by
  have hm : p ∈ m := by simpa using h
  rw [idx_o]
  have f1 : (dP p).fit deep = true := fit_dP (n := 59)
  have f2 : D.fitL deep (m.map dP) = true := fitL_dP (n := 59)
  rw [f1, f2, Bool.and_self, if_pos rfl, find_dP, (List.findIdx?_eq_some_iff_findIdx_eq).mpr ⟨List.findIdx_lt_length.mpr ⟨p, hm, by simp⟩, rfl⟩]
  rfl
theorem ok_dP {p : Pr} : asOk (dP p) = pur (dP p) := rfl
theorem ix_dP {p : Pr} : bop .ix (dP p) (.int 0) = some (.str p.1) := rfl
theorem ix_dP1 {p : Pr} : bop .ix (dP p) (.int 1) = some (.str p.2) := rfl
end K04

namespace K04
open Ev
theorem comp_q {Φ : Fun} {C : Nat → Option D} {ρ : Env} {s : Nat} {it : Ex} {m : List Pr} (hs : ∀ d, slot ((wipeE ρ [s]).set s (some d)) s = some d) (h : itr Φ C it ρ = pur (m.map dP)) : ev Φ C (.comp [s] .nil (.bi .ix (.var s) (.lit (.int 1))) it) ρ = pur (.lst (m.map fun q => .str q.2)) := by
  rw [ev_comp_map m dP (fun q => .str q.2) h]
  intro q _
  rw [bindT1, some_bnd, ev_bi, ev_var, hs]
  simp only [ix_dP1, ev_var, ev_lit, ev_con, ev_tup, ev_lst, ev_un, ev_bi, ev_ch, ev_not, ev_and, ev_or, ev_ite, ev_cut, ev_call, ev_cel, ev_at0, ev_meth, ev_dct, ev_get2, ev_idx, ev_lam, evL_nil, evL_cons, evO_nil, evO_val, evC_nil, evC_val, itr_val, itr_rng1, itr_rng2, itr_zip, ex_nil, ex_cons, ex_skip, ex_set, ex_own, ex_frz, ex_unp, ex_par, ex_app, ex_put, ex_bad, ex_rse, ex_rsf, ex_try, ex_paro, itr_enu, ex_ret, ex_drop, ex_ite, bnd_assoc, fit_non, fit_bl, fit_int, fit_str, fitL_nil, fitL_cons, eq_ii, eq_ss, eq_bb, List.any_cons, List.any_nil, Bool.or_false, Bool.and_self, Bool.and_true, Bool.true_and, slot0, slotS, ofO_some, some_bnd, pur_bnd, non_bnd, noE_pur, asBl_bl, bnd_ite, if_bl, if_true, if_false, Bool.false_eq_true, Bool.not_true, Bool.not_false, reduceIte, pyAt0, pyAt1, pyAt2, pyAt3, List.getElem?_cons_zero, List.getElem?_cons_succ, u_isStr_non, u_isStr_bl, u_isStr_int, u_isStr_str, u_isStr_tup, u_isStr_lst, u_isStr_own, u_isTup_non, u_isTup_bl, u_isTup_int, u_isTup_str, u_isTup_tup, u_isTup_lst, u_isTup_own, u_isInt_non, u_isInt_bl, u_isInt_int, u_isInt_str, u_isInt_tup, u_isInt_lst, u_isInt_own, u_isBl_non, u_isBl_bl, u_isBl_int, u_isBl_str, u_isBl_tup, u_isBl_lst, u_isBl_own, u_isLst_non, u_isLst_bl, u_isLst_int, u_isLst_str, u_isLst_tup, u_isLst_lst, u_isLst_own, ok_non, ok_bl, ok_int, ok_str, ok_tup, ok_lst, ok_own, ok_ref, u_len_str, u_len_tup, u_len_lst, u_len_own, u_int_int, u_neg_int, u_tuple_tup, u_list_tup, u_tuple_lst, u_list_lst, u_tuple_own, u_list_own, u_rev_tup, u_rev_lst, b_add_int, b_sub_int, b_add_tup, b_add_str, b_add_lst, b_mul_int, b_mod_int, b_fdiv_int, b_eq, b_ne, b_lt_int, b_lt_str, b_le_int, b_le_str, b_gt_int, b_gt_str, b_ge_int, b_ge_str, b_in_tup, b_in_lst, b_nin_tup, b_in_str, b_nin_str, b_is_bl, b_isn_bl, b_ix_tup, b_ix_lst, b_ix_str, eqO_int, eqO_str, eqO_bl, it_tup, it_lst, it_str, intOf_int, zip_tup, zip_lst, rng1_int, rng2_int, cut_tup, cut_lst, set0, setS, bindT1, bindT2, ownK_t, ownK_f, cut_own, b_in_own, b_nin_own, b_nin_lst, b_ix_own, bindP2, ok_pr, sq_lst, sq_own, sq_tup, idx_t, idx_l, idx_o, lam_pur, lam_err, try_pur, try_err, hdR_cons, raise_bnd, enu_tup, sets2, wipe1, wipe2, app_own, frz_own, lstK_lst, isStr_str, enu_lst, map_s, map_n, ofO_n]
theorem r16s (k : Nat) {w : Wo} {u : Su} (o : OkU u) (h : isSd w) {i : Nat} {f : Wo × List Wo} (hf : u.fs[i]? = some f) {v : Wo} (hv : v ∈ f.2) : F (k + 6) 16 [dSetup u, .str w, .str f.1, .str v] = pur (ech u i f w v) := by
  rw [F, runF_at (fd := f16) rfl rfl]
  show bnd (exS _ _ b16 [some (dSetup u), some (.str w), some (.str f.1), some (.str v), none, none, none, none, none, none]) _ = _
  unfold b16
  have q9 := r9s k o
  have q10 := r10s (k + 3) (m := 4) (n := 0) (by omega) (v := .str w) rfl
  have q11 := r11g (k + 3) o.g hf
  have q12 := r12s (k + 3) (m := 4) (n := 0) (by omega) hf (v := .str v) rfl
  have hw : isWord (f.2.map D.str) (.str v) = true := by rw [isWord_str]; simpa using hv
  rw [side_word h, if_pos rfl] at q10
  rw [hw, if_pos rfl] at q12
  have q15 := r15s (k + 3) o.g h (fi_at o.g w hf) hv
  have p0 : inI f (w, stW f.2 (rowAt u w i) v) := ⟨h, st_mem o.g (fi_at o.g w hf) hv⟩
  obtain ⟨m, p', e, hl, hc⟩ := walk_at o.g hf p0
  have hw2 := whl_walk (nx := nx u i f) (I := inI f) (fun met p ρ => ∃ o8, ρ = [some (dSetup u), some (.str w), some (.str f.1), some (.str v), some (.int (i : Int)), none, some (.own (met.map dP)), some (dP p), o8, none])
    (c := fun ρ' => bnd (ev (runF T.fns T.C (k + 5)) T.C (.bi .nin (.var 7) (.var 6)) ρ') asBl)
    (f := fun ρ' => exS (runF T.fns T.C (k + 5)) T.C (.cons (.app 6 (.var 7)) (.cons (.set 8 (.call 13 (.cons (.bi .ix (.var 7) (.lit (.int 0))) .nil))) (.cons (.set 7 (.tup (.cons (.var 8) (.cons (.call 15 (.cons (.var 0) (.cons (.var 8) (.cons (.var 4) (.cons (.bi .ix (.var 7) (.lit (.int 1))) .nil))))) .nil)))) .nil))) ρ')
    ?_ ?_ (fun p hp => nx_in o.g hf p hp) 20 [] _ m p' [some (dSetup u), some (.str w), some (.str f.1), some (.str v), some (.int (i : Int)), none, some (.own []), some (dP (w, stW f.2 (rowAt u w i) v)), none, none] p0 (by simp) ⟨none, rfl⟩ e
  · obtain ⟨ρ', e1, ⟨o8, rfl⟩, hI⟩ := hw2
    have e1 := e1
    simp only [q9, q10, q11, q12, q15, ok_setup, ownK_f, ev_var, ev_lit, ev_con, ev_tup, ev_lst, ev_un, ev_bi, ev_ch, ev_not, ev_and, ev_or, ev_ite, ev_cut, ev_call, ev_cel, ev_at0, ev_meth, ev_dct, ev_get2, ev_idx, ev_lam, evL_nil, evL_cons, evO_nil, evO_val, evC_nil, evC_val, itr_val, itr_rng1, itr_rng2, itr_zip, ex_nil, ex_cons, ex_skip, ex_set, ex_own, ex_frz, ex_unp, ex_par, ex_app, ex_put, ex_bad, ex_rse, ex_rsf, ex_try, ex_paro, itr_enu, ex_ret, ex_drop, ex_ite, bnd_assoc, fit_non, fit_bl, fit_int, fit_str, fitL_nil, fitL_cons, eq_ii, eq_ss, eq_bb, List.any_cons, List.any_nil, Bool.or_false, Bool.and_self, Bool.and_true, Bool.true_and, slot0, slotS, ofO_some, some_bnd, pur_bnd, non_bnd, noE_pur, asBl_bl, bnd_ite, if_bl, if_true, if_false, Bool.false_eq_true, Bool.not_true, Bool.not_false, reduceIte, pyAt0, pyAt1, pyAt2, pyAt3, List.getElem?_cons_zero, List.getElem?_cons_succ, u_isStr_non, u_isStr_bl, u_isStr_int, u_isStr_str, u_isStr_tup, u_isStr_lst, u_isStr_own, u_isTup_non, u_isTup_bl, u_isTup_int, u_isTup_str, u_isTup_tup, u_isTup_lst, u_isTup_own, u_isInt_non, u_isInt_bl, u_isInt_int, u_isInt_str, u_isInt_tup, u_isInt_lst, u_isInt_own, u_isBl_non, u_isBl_bl, u_isBl_int, u_isBl_str, u_isBl_tup, u_isBl_lst, u_isBl_own, u_isLst_non, u_isLst_bl, u_isLst_int, u_isLst_str, u_isLst_tup, u_isLst_lst, u_isLst_own, ok_non, ok_bl, ok_int, ok_str, ok_tup, ok_lst, ok_own, ok_ref, u_len_str, u_len_tup, u_len_lst, u_len_own, u_int_int, u_neg_int, u_tuple_tup, u_list_tup, u_tuple_lst, u_list_lst, u_tuple_own, u_list_own, u_rev_tup, u_rev_lst, b_add_int, b_sub_int, b_add_tup, b_add_str, b_add_lst, b_mul_int, b_mod_int, b_fdiv_int, b_eq, b_ne, b_lt_int, b_lt_str, b_le_int, b_le_str, b_gt_int, b_gt_str, b_ge_int, b_ge_str, b_in_tup, b_in_lst, b_nin_tup, b_in_str, b_nin_str, b_is_bl, b_isn_bl, b_ix_tup, b_ix_lst, b_ix_str, eqO_int, eqO_str, eqO_bl, it_tup, it_lst, it_str, intOf_int, zip_tup, zip_lst, rng1_int, rng2_int, cut_tup, cut_lst, set0, setS, bindT1, bindT2, ownK_t, ownK_f, cut_own, b_in_own, b_nin_own, b_nin_lst, b_ix_own, bindP2, ok_pr, sq_lst, sq_own, sq_tup, idx_t, idx_l, idx_o, lam_pur, lam_err, try_pur, try_err, hdR_cons, raise_bnd, enu_tup, sets2, wipe1, wipe2, app_own, frz_own, lstK_lst, isStr_str, enu_lst, map_s, map_n, ofO_n]
    refine (congrArg (fun z => bnd z _) (ex_whl.trans e1)).trans ?_
    have hc1 : ∀ (s : Nat) (ρ : Env), itr (runF T.fns T.C (k + 5)) T.C (.val (.cut (.var 6) .nil (.val (.var 5)))) [some (dSetup u), some (.str w), some (.str f.1), some (.str v), some (.int (i : Int)), some (.int (m.findIdx (fun z => z == p') : Nat)), some (.own (m.map dP)), some (dP p'), o8, none] = pur ((pyCut m none (some (m.findIdx fun z => z == p' : Nat))).map dP) := fun _ _ => by
      simp only [cut_map, ev_var, ev_lit, ev_con, ev_tup, ev_lst, ev_un, ev_bi, ev_ch, ev_not, ev_and, ev_or, ev_ite, ev_cut, ev_call, ev_cel, ev_at0, ev_meth, ev_dct, ev_get2, ev_idx, ev_lam, evL_nil, evL_cons, evO_nil, evO_val, evC_nil, evC_val, itr_val, itr_rng1, itr_rng2, itr_zip, ex_nil, ex_cons, ex_skip, ex_set, ex_own, ex_frz, ex_unp, ex_par, ex_app, ex_put, ex_bad, ex_rse, ex_rsf, ex_try, ex_paro, itr_enu, ex_ret, ex_drop, ex_ite, bnd_assoc, fit_non, fit_bl, fit_int, fit_str, fitL_nil, fitL_cons, eq_ii, eq_ss, eq_bb, List.any_cons, List.any_nil, Bool.or_false, Bool.and_self, Bool.and_true, Bool.true_and, slot0, slotS, ofO_some, some_bnd, pur_bnd, non_bnd, noE_pur, asBl_bl, bnd_ite, if_bl, if_true, if_false, Bool.false_eq_true, Bool.not_true, Bool.not_false, reduceIte, pyAt0, pyAt1, pyAt2, pyAt3, List.getElem?_cons_zero, List.getElem?_cons_succ, u_isStr_non, u_isStr_bl, u_isStr_int, u_isStr_str, u_isStr_tup, u_isStr_lst, u_isStr_own, u_isTup_non, u_isTup_bl, u_isTup_int, u_isTup_str, u_isTup_tup, u_isTup_lst, u_isTup_own, u_isInt_non, u_isInt_bl, u_isInt_int, u_isInt_str, u_isInt_tup, u_isInt_lst, u_isInt_own, u_isBl_non, u_isBl_bl, u_isBl_int, u_isBl_str, u_isBl_tup, u_isBl_lst, u_isBl_own, u_isLst_non, u_isLst_bl, u_isLst_int, u_isLst_str, u_isLst_tup, u_isLst_lst, u_isLst_own, ok_non, ok_bl, ok_int, ok_str, ok_tup, ok_lst, ok_own, ok_ref, u_len_str, u_len_tup, u_len_lst, u_len_own, u_int_int, u_neg_int, u_tuple_tup, u_list_tup, u_tuple_lst, u_list_lst, u_tuple_own, u_list_own, u_rev_tup, u_rev_lst, b_add_int, b_sub_int, b_add_tup, b_add_str, b_add_lst, b_mul_int, b_mod_int, b_fdiv_int, b_eq, b_ne, b_lt_int, b_lt_str, b_le_int, b_le_str, b_gt_int, b_gt_str, b_ge_int, b_ge_str, b_in_tup, b_in_lst, b_nin_tup, b_in_str, b_nin_str, b_is_bl, b_isn_bl, b_ix_tup, b_ix_lst, b_ix_str, eqO_int, eqO_str, eqO_bl, it_tup, it_lst, it_str, intOf_int, zip_tup, zip_lst, rng1_int, rng2_int, cut_tup, cut_lst, set0, setS, bindT1, bindT2, ownK_t, ownK_f, cut_own, b_in_own, b_nin_own, b_nin_lst, b_ix_own, bindP2, ok_pr, sq_lst, sq_own, sq_tup, idx_t, idx_l, idx_o, lam_pur, lam_err, try_pur, try_err, hdR_cons, raise_bnd, enu_tup, sets2, wipe1, wipe2, app_own, frz_own, lstK_lst, isStr_str, enu_lst, map_s, map_n, ofO_n]
    have hc2 : ∀ (s : Nat) (ρ : Env), itr (runF T.fns T.C (k + 5)) T.C (.val (.cut (.var 6) (.val (.var 5)) .nil)) [some (dSetup u), some (.str w), some (.str f.1), some (.str v), some (.int (i : Int)), some (.int (m.findIdx (fun z => z == p') : Nat)), some (.own (m.map dP)), some (dP p'), o8, none] = pur ((pyCut m (some (m.findIdx fun z => z == p' : Nat)) none).map dP) := fun _ _ => by
      simp only [cut_map, ev_var, ev_lit, ev_con, ev_tup, ev_lst, ev_un, ev_bi, ev_ch, ev_not, ev_and, ev_or, ev_ite, ev_cut, ev_call, ev_cel, ev_at0, ev_meth, ev_dct, ev_get2, ev_idx, ev_lam, evL_nil, evL_cons, evO_nil, evO_val, evC_nil, evC_val, itr_val, itr_rng1, itr_rng2, itr_zip, ex_nil, ex_cons, ex_skip, ex_set, ex_own, ex_frz, ex_unp, ex_par, ex_app, ex_put, ex_bad, ex_rse, ex_rsf, ex_try, ex_paro, itr_enu, ex_ret, ex_drop, ex_ite, bnd_assoc, fit_non, fit_bl, fit_int, fit_str, fitL_nil, fitL_cons, eq_ii, eq_ss, eq_bb, List.any_cons, List.any_nil, Bool.or_false, Bool.and_self, Bool.and_true, Bool.true_and, slot0, slotS, ofO_some, some_bnd, pur_bnd, non_bnd, noE_pur, asBl_bl, bnd_ite, if_bl, if_true, if_false, Bool.false_eq_true, Bool.not_true, Bool.not_false, reduceIte, pyAt0, pyAt1, pyAt2, pyAt3, List.getElem?_cons_zero, List.getElem?_cons_succ, u_isStr_non, u_isStr_bl, u_isStr_int, u_isStr_str, u_isStr_tup, u_isStr_lst, u_isStr_own, u_isTup_non, u_isTup_bl, u_isTup_int, u_isTup_str, u_isTup_tup, u_isTup_lst, u_isTup_own, u_isInt_non, u_isInt_bl, u_isInt_int, u_isInt_str, u_isInt_tup, u_isInt_lst, u_isInt_own, u_isBl_non, u_isBl_bl, u_isBl_int, u_isBl_str, u_isBl_tup, u_isBl_lst, u_isBl_own, u_isLst_non, u_isLst_bl, u_isLst_int, u_isLst_str, u_isLst_tup, u_isLst_lst, u_isLst_own, ok_non, ok_bl, ok_int, ok_str, ok_tup, ok_lst, ok_own, ok_ref, u_len_str, u_len_tup, u_len_lst, u_len_own, u_int_int, u_neg_int, u_tuple_tup, u_list_tup, u_tuple_lst, u_list_lst, u_tuple_own, u_list_own, u_rev_tup, u_rev_lst, b_add_int, b_sub_int, b_add_tup, b_add_str, b_add_lst, b_mul_int, b_mod_int, b_fdiv_int, b_eq, b_ne, b_lt_int, b_lt_str, b_le_int, b_le_str, b_gt_int, b_gt_str, b_ge_int, b_ge_str, b_in_tup, b_in_lst, b_nin_tup, b_in_str, b_nin_str, b_is_bl, b_isn_bl, b_ix_tup, b_ix_lst, b_ix_str, eqO_int, eqO_str, eqO_bl, it_tup, it_lst, it_str, intOf_int, zip_tup, zip_lst, rng1_int, rng2_int, cut_tup, cut_lst, set0, setS, bindT1, bindT2, ownK_t, ownK_f, cut_own, b_in_own, b_nin_own, b_nin_lst, b_ix_own, bindP2, ok_pr, sq_lst, sq_own, sq_tup, idx_t, idx_l, idx_o, lam_pur, lam_err, try_pur, try_err, hdR_cons, raise_bnd, enu_tup, sets2, wipe1, wipe2, app_own, frz_own, lstK_lst, isStr_str, enu_lst, map_s, map_n, ofO_n]
    simp only [idx_dP hc, comp_q (s := 9) (fun _ => rfl) (hc1 0 []), comp_q (s := 9) (fun _ => rfl) (hc2 0 []), ev_var, ev_lit, ev_con, ev_tup, ev_lst, ev_un, ev_bi, ev_ch, ev_not, ev_and, ev_or, ev_ite, ev_cut, ev_call, ev_cel, ev_at0, ev_meth, ev_dct, ev_get2, ev_idx, ev_lam, evL_nil, evL_cons, evO_nil, evO_val, evC_nil, evC_val, itr_val, itr_rng1, itr_rng2, itr_zip, ex_nil, ex_cons, ex_skip, ex_set, ex_own, ex_frz, ex_unp, ex_par, ex_app, ex_put, ex_bad, ex_rse, ex_rsf, ex_try, ex_paro, itr_enu, ex_ret, ex_drop, ex_ite, bnd_assoc, fit_non, fit_bl, fit_int, fit_str, fitL_nil, fitL_cons, eq_ii, eq_ss, eq_bb, List.any_cons, List.any_nil, Bool.or_false, Bool.and_self, Bool.and_true, Bool.true_and, slot0, slotS, ofO_some, some_bnd, pur_bnd, non_bnd, noE_pur, asBl_bl, bnd_ite, if_bl, if_true, if_false, Bool.false_eq_true, Bool.not_true, Bool.not_false, reduceIte, pyAt0, pyAt1, pyAt2, pyAt3, List.getElem?_cons_zero, List.getElem?_cons_succ, u_isStr_non, u_isStr_bl, u_isStr_int, u_isStr_str, u_isStr_tup, u_isStr_lst, u_isStr_own, u_isTup_non, u_isTup_bl, u_isTup_int, u_isTup_str, u_isTup_tup, u_isTup_lst, u_isTup_own, u_isInt_non, u_isInt_bl, u_isInt_int, u_isInt_str, u_isInt_tup, u_isInt_lst, u_isInt_own, u_isBl_non, u_isBl_bl, u_isBl_int, u_isBl_str, u_isBl_tup, u_isBl_lst, u_isBl_own, u_isLst_non, u_isLst_bl, u_isLst_int, u_isLst_str, u_isLst_tup, u_isLst_lst, u_isLst_own, ok_non, ok_bl, ok_int, ok_str, ok_tup, ok_lst, ok_own, ok_ref, u_len_str, u_len_tup, u_len_lst, u_len_own, u_int_int, u_neg_int, u_tuple_tup, u_list_tup, u_tuple_lst, u_list_lst, u_tuple_own, u_list_own, u_rev_tup, u_rev_lst, b_add_int, b_sub_int, b_add_tup, b_add_str, b_add_lst, b_mul_int, b_mod_int, b_fdiv_int, b_eq, b_ne, b_lt_int, b_lt_str, b_le_int, b_le_str, b_gt_int, b_gt_str, b_ge_int, b_ge_str, b_in_tup, b_in_lst, b_nin_tup, b_in_str, b_nin_str, b_is_bl, b_isn_bl, b_ix_tup, b_ix_lst, b_ix_str, eqO_int, eqO_str, eqO_bl, it_tup, it_lst, it_str, intOf_int, zip_tup, zip_lst, rng1_int, rng2_int, cut_tup, cut_lst, set0, setS, bindT1, bindT2, ownK_t, ownK_f, cut_own, b_in_own, b_nin_own, b_nin_lst, b_ix_own, bindP2, ok_pr, sq_lst, sq_own, sq_tup, idx_t, idx_l, idx_o, lam_pur, lam_err, try_pur, try_err, hdR_cons, raise_bnd, enu_tup, sets2, wipe1, wipe2, app_own, frz_own, lstK_lst, isStr_str, enu_lst, map_s, map_n, ofO_n]
    unfold ech
    rw [e]
    rfl
  · rintro met p ρ hp ⟨o8, rfl⟩
    have f1 : (dP p).fit deep = true := fit_dP (n := 59)
    have f2 : D.fitL deep (met.map dP) = true := fitL_dP (n := 59)
    simp only [f1, f2, any_dP, ev_var, ev_lit, ev_con, ev_tup, ev_lst, ev_un, ev_bi, ev_ch, ev_not, ev_and, ev_or, ev_ite, ev_cut, ev_call, ev_cel, ev_at0, ev_meth, ev_dct, ev_get2, ev_idx, ev_lam, evL_nil, evL_cons, evO_nil, evO_val, evC_nil, evC_val, itr_val, itr_rng1, itr_rng2, itr_zip, ex_nil, ex_cons, ex_skip, ex_set, ex_own, ex_frz, ex_unp, ex_par, ex_app, ex_put, ex_bad, ex_rse, ex_rsf, ex_try, ex_paro, itr_enu, ex_ret, ex_drop, ex_ite, bnd_assoc, fit_non, fit_bl, fit_int, fit_str, fitL_nil, fitL_cons, eq_ii, eq_ss, eq_bb, List.any_cons, List.any_nil, Bool.or_false, Bool.and_self, Bool.and_true, Bool.true_and, slot0, slotS, ofO_some, some_bnd, pur_bnd, non_bnd, noE_pur, asBl_bl, bnd_ite, if_bl, if_true, if_false, Bool.false_eq_true, Bool.not_true, Bool.not_false, reduceIte, pyAt0, pyAt1, pyAt2, pyAt3, List.getElem?_cons_zero, List.getElem?_cons_succ, u_isStr_non, u_isStr_bl, u_isStr_int, u_isStr_str, u_isStr_tup, u_isStr_lst, u_isStr_own, u_isTup_non, u_isTup_bl, u_isTup_int, u_isTup_str, u_isTup_tup, u_isTup_lst, u_isTup_own, u_isInt_non, u_isInt_bl, u_isInt_int, u_isInt_str, u_isInt_tup, u_isInt_lst, u_isInt_own, u_isBl_non, u_isBl_bl, u_isBl_int, u_isBl_str, u_isBl_tup, u_isBl_lst, u_isBl_own, u_isLst_non, u_isLst_bl, u_isLst_int, u_isLst_str, u_isLst_tup, u_isLst_lst, u_isLst_own, ok_non, ok_bl, ok_int, ok_str, ok_tup, ok_lst, ok_own, ok_ref, u_len_str, u_len_tup, u_len_lst, u_len_own, u_int_int, u_neg_int, u_tuple_tup, u_list_tup, u_tuple_lst, u_list_lst, u_tuple_own, u_list_own, u_rev_tup, u_rev_lst, b_add_int, b_sub_int, b_add_tup, b_add_str, b_add_lst, b_mul_int, b_mod_int, b_fdiv_int, b_eq, b_ne, b_lt_int, b_lt_str, b_le_int, b_le_str, b_gt_int, b_gt_str, b_ge_int, b_ge_str, b_in_tup, b_in_lst, b_nin_tup, b_in_str, b_nin_str, b_is_bl, b_isn_bl, b_ix_tup, b_ix_lst, b_ix_str, eqO_int, eqO_str, eqO_bl, it_tup, it_lst, it_str, intOf_int, zip_tup, zip_lst, rng1_int, rng2_int, cut_tup, cut_lst, set0, setS, bindT1, bindT2, ownK_t, ownK_f, cut_own, b_in_own, b_nin_own, b_nin_lst, b_ix_own, bindP2, ok_pr, sq_lst, sq_own, sq_tup, idx_t, idx_l, idx_o, lam_pur, lam_err, try_pur, try_err, hdR_cons, raise_bnd, enu_tup, sets2, wipe1, wipe2, app_own, frz_own, lstK_lst, isStr_str, enu_lst, map_s, map_n, ofO_n]
  · rintro met p ρ hp hm ⟨o8, rfl⟩
    have hl2 : (met.map dP).length < lim := by rw [List.length_map]; unfold lim; omega
    have q13 := r13s (k + 4) hp.1
    have q15' := r15s (k + 3) o.g (oth_sd (w := p.1)) (fi_at o.g (oth p.1) hf) hp.2
    refine ⟨[some (dSetup u), some (.str w), some (.str f.1), some (.str v), some (.int (i : Int)), none, some (.own ((met ++ [p]).map dP)), some (dP (nx u i f p)), some (.str (oth p.1)), none], ?_, _, rfl⟩
    simp only [hl2, ok_dP, ix_dP, ix_dP1, ok_setup, q13, q15', ev_var, ev_lit, ev_con, ev_tup, ev_lst, ev_un, ev_bi, ev_ch, ev_not, ev_and, ev_or, ev_ite, ev_cut, ev_call, ev_cel, ev_at0, ev_meth, ev_dct, ev_get2, ev_idx, ev_lam, evL_nil, evL_cons, evO_nil, evO_val, evC_nil, evC_val, itr_val, itr_rng1, itr_rng2, itr_zip, ex_nil, ex_cons, ex_skip, ex_set, ex_own, ex_frz, ex_unp, ex_par, ex_app, ex_put, ex_bad, ex_rse, ex_rsf, ex_try, ex_paro, itr_enu, ex_ret, ex_drop, ex_ite, bnd_assoc, fit_non, fit_bl, fit_int, fit_str, fitL_nil, fitL_cons, eq_ii, eq_ss, eq_bb, List.any_cons, List.any_nil, Bool.or_false, Bool.and_self, Bool.and_true, Bool.true_and, slot0, slotS, ofO_some, some_bnd, pur_bnd, non_bnd, noE_pur, asBl_bl, bnd_ite, if_bl, if_true, if_false, Bool.false_eq_true, Bool.not_true, Bool.not_false, reduceIte, pyAt0, pyAt1, pyAt2, pyAt3, List.getElem?_cons_zero, List.getElem?_cons_succ, u_isStr_non, u_isStr_bl, u_isStr_int, u_isStr_str, u_isStr_tup, u_isStr_lst, u_isStr_own, u_isTup_non, u_isTup_bl, u_isTup_int, u_isTup_str, u_isTup_tup, u_isTup_lst, u_isTup_own, u_isInt_non, u_isInt_bl, u_isInt_int, u_isInt_str, u_isInt_tup, u_isInt_lst, u_isInt_own, u_isBl_non, u_isBl_bl, u_isBl_int, u_isBl_str, u_isBl_tup, u_isBl_lst, u_isBl_own, u_isLst_non, u_isLst_bl, u_isLst_int, u_isLst_str, u_isLst_tup, u_isLst_lst, u_isLst_own, ok_non, ok_bl, ok_int, ok_str, ok_tup, ok_lst, ok_own, ok_ref, u_len_str, u_len_tup, u_len_lst, u_len_own, u_int_int, u_neg_int, u_tuple_tup, u_list_tup, u_tuple_lst, u_list_lst, u_tuple_own, u_list_own, u_rev_tup, u_rev_lst, b_add_int, b_sub_int, b_add_tup, b_add_str, b_add_lst, b_mul_int, b_mod_int, b_fdiv_int, b_eq, b_ne, b_lt_int, b_lt_str, b_le_int, b_le_str, b_gt_int, b_gt_str, b_ge_int, b_ge_str, b_in_tup, b_in_lst, b_nin_tup, b_in_str, b_nin_str, b_is_bl, b_isn_bl, b_ix_tup, b_ix_lst, b_ix_str, eqO_int, eqO_str, eqO_bl, it_tup, it_lst, it_str, intOf_int, zip_tup, zip_lst, rng1_int, rng2_int, cut_tup, cut_lst, set0, setS, bindT1, bindT2, ownK_t, ownK_f, cut_own, b_in_own, b_nin_own, b_nin_lst, b_ix_own, bindP2, ok_pr, sq_lst, sq_own, sq_tup, idx_t, idx_l, idx_o, lam_pur, lam_err, try_pur, try_err, hdR_cons, raise_bnd, enu_tup, sets2, wipe1, wipe2, app_own, frz_own, lstK_lst, isStr_str, enu_lst, map_s, map_n, ofO_n]
    rw [List.map_append]
    rfl
end K04

namespace K04
open Ev
theorem r26s (k : Nat) {w : Wo} {u : Su} (o : OkU u) (h : isSd w) {i : Nat} {f : Wo × List Wo} (hf : u.fs[i]? = some f) {v : Wo} (hv : v ∈ f.2) : F (k + 2) 26 [dSetup u, .str w, .int (i : Int), .str v] = pur (ech u i f w v) := by
  rw [F, runF_at (fd := f26) rfl rfl]
  show bnd (exS _ _ b26 [some (dSetup u), some (.str w), some (.int (i : Int)), some (.str v), none, none, none, none]) _ = _
  unfold b26
  have q24 := r24s k o.g h (fi_at o.g w hf) hv
  have p0 : inI f (w, stW f.2 (rowAt u w i) v) := ⟨h, st_mem o.g (fi_at o.g w hf) hv⟩
  obtain ⟨m, p', e, hl, hc⟩ := walk_at o.g hf p0
  have hw2 := whl_walk (nx := nx u i f) (I := inI f) (fun met p ρ => ρ = [some (dSetup u), some (.str p.1), some (.int (i : Int)), some (.str v), none, some (.own (met.map dP)), some (.str p.2), none])
    (c := fun ρ' => bnd (ev (runF T.fns T.C (k + 1)) T.C (.bi .nin (.tup (.cons (.var 1) (.cons (.var 6) .nil))) (.var 5)) ρ') asBl)
    (f := fun ρ' => exS (runF T.fns T.C (k + 1)) T.C (.cons (.app 5 (.tup (.cons (.var 1) (.cons (.var 6) .nil)))) (.cons (.set 1 (.call 25 (.cons (.var 1) .nil))) (.cons (.set 6 (.call 24 (.cons (.var 0) (.cons (.var 1) (.cons (.var 2) (.cons (.var 6) .nil)))))) .nil))) ρ')
    ?_ ?_ (fun p hp => nx_in o.g hf p hp) 20 [] _ m p' [some (dSetup u), some (.str w), some (.int (i : Int)), some (.str v), none, some (.own []), some (.str (stW f.2 (rowAt u w i) v)), none] p0 (by simp) rfl e
  · obtain ⟨ρ', e1, rfl, hI⟩ := hw2
    have e1 := e1
    simp only [q24, ok_setup, ownK_f, ev_var, ev_lit, ev_con, ev_tup, ev_lst, ev_un, ev_bi, ev_ch, ev_not, ev_and, ev_or, ev_ite, ev_cut, ev_call, ev_cel, ev_at0, ev_meth, ev_dct, ev_get2, ev_idx, ev_lam, evL_nil, evL_cons, evO_nil, evO_val, evC_nil, evC_val, itr_val, itr_rng1, itr_rng2, itr_zip, ex_nil, ex_cons, ex_skip, ex_set, ex_own, ex_frz, ex_unp, ex_par, ex_app, ex_put, ex_bad, ex_rse, ex_rsf, ex_try, ex_paro, itr_enu, ex_ret, ex_drop, ex_ite, bnd_assoc, fit_non, fit_bl, fit_int, fit_str, fitL_nil, fitL_cons, eq_ii, eq_ss, eq_bb, List.any_cons, List.any_nil, Bool.or_false, Bool.and_self, Bool.and_true, Bool.true_and, slot0, slotS, ofO_some, some_bnd, pur_bnd, non_bnd, noE_pur, asBl_bl, bnd_ite, if_bl, if_true, if_false, Bool.false_eq_true, Bool.not_true, Bool.not_false, reduceIte, pyAt0, pyAt1, pyAt2, pyAt3, List.getElem?_cons_zero, List.getElem?_cons_succ, u_isStr_non, u_isStr_bl, u_isStr_int, u_isStr_str, u_isStr_tup, u_isStr_lst, u_isStr_own, u_isTup_non, u_isTup_bl, u_isTup_int, u_isTup_str, u_isTup_tup, u_isTup_lst, u_isTup_own, u_isInt_non, u_isInt_bl, u_isInt_int, u_isInt_str, u_isInt_tup, u_isInt_lst, u_isInt_own, u_isBl_non, u_isBl_bl, u_isBl_int, u_isBl_str, u_isBl_tup, u_isBl_lst, u_isBl_own, u_isLst_non, u_isLst_bl, u_isLst_int, u_isLst_str, u_isLst_tup, u_isLst_lst, u_isLst_own, ok_non, ok_bl, ok_int, ok_str, ok_tup, ok_lst, ok_own, ok_ref, u_len_str, u_len_tup, u_len_lst, u_len_own, u_int_int, u_neg_int, u_tuple_tup, u_list_tup, u_tuple_lst, u_list_lst, u_tuple_own, u_list_own, u_rev_tup, u_rev_lst, b_add_int, b_sub_int, b_add_tup, b_add_str, b_add_lst, b_mul_int, b_mod_int, b_fdiv_int, b_eq, b_ne, b_lt_int, b_lt_str, b_le_int, b_le_str, b_gt_int, b_gt_str, b_ge_int, b_ge_str, b_in_tup, b_in_lst, b_nin_tup, b_in_str, b_nin_str, b_is_bl, b_isn_bl, b_ix_tup, b_ix_lst, b_ix_str, eqO_int, eqO_str, eqO_bl, it_tup, it_lst, it_str, intOf_int, zip_tup, zip_lst, rng1_int, rng2_int, cut_tup, cut_lst, set0, setS, bindT1, bindT2, ownK_t, ownK_f, cut_own, b_in_own, b_nin_own, b_nin_lst, b_ix_own, bindP2, ok_pr, sq_lst, sq_own, sq_tup, idx_t, idx_l, idx_o, lam_pur, lam_err, try_pur, try_err, hdR_cons, raise_bnd, enu_tup, sets2, wipe1, wipe2, app_own, frz_own, lstK_lst, isStr_str, enu_lst, map_s, map_n, ofO_n]
    refine (congrArg (fun z => bnd z _) (ex_whl.trans e1)).trans ?_
    have hc1 : itr (runF T.fns T.C (k + 1)) T.C (.val (.cut (.var 5) .nil (.val (.var 4)))) [some (dSetup u), some (.str p'.1), some (.int (i : Int)), some (.str v), some (.int (m.findIdx (fun z => z == p') : Nat)), some (.own (m.map dP)), some (.str p'.2), none] = pur ((pyCut m none (some (m.findIdx fun z => z == p' : Nat))).map dP) := by
      simp only [cut_map, ev_var, ev_lit, ev_con, ev_tup, ev_lst, ev_un, ev_bi, ev_ch, ev_not, ev_and, ev_or, ev_ite, ev_cut, ev_call, ev_cel, ev_at0, ev_meth, ev_dct, ev_get2, ev_idx, ev_lam, evL_nil, evL_cons, evO_nil, evO_val, evC_nil, evC_val, itr_val, itr_rng1, itr_rng2, itr_zip, ex_nil, ex_cons, ex_skip, ex_set, ex_own, ex_frz, ex_unp, ex_par, ex_app, ex_put, ex_bad, ex_rse, ex_rsf, ex_try, ex_paro, itr_enu, ex_ret, ex_drop, ex_ite, bnd_assoc, fit_non, fit_bl, fit_int, fit_str, fitL_nil, fitL_cons, eq_ii, eq_ss, eq_bb, List.any_cons, List.any_nil, Bool.or_false, Bool.and_self, Bool.and_true, Bool.true_and, slot0, slotS, ofO_some, some_bnd, pur_bnd, non_bnd, noE_pur, asBl_bl, bnd_ite, if_bl, if_true, if_false, Bool.false_eq_true, Bool.not_true, Bool.not_false, reduceIte, pyAt0, pyAt1, pyAt2, pyAt3, List.getElem?_cons_zero, List.getElem?_cons_succ, u_isStr_non, u_isStr_bl, u_isStr_int, u_isStr_str, u_isStr_tup, u_isStr_lst, u_isStr_own, u_isTup_non, u_isTup_bl, u_isTup_int, u_isTup_str, u_isTup_tup, u_isTup_lst, u_isTup_own, u_isInt_non, u_isInt_bl, u_isInt_int, u_isInt_str, u_isInt_tup, u_isInt_lst, u_isInt_own, u_isBl_non, u_isBl_bl, u_isBl_int, u_isBl_str, u_isBl_tup, u_isBl_lst, u_isBl_own, u_isLst_non, u_isLst_bl, u_isLst_int, u_isLst_str, u_isLst_tup, u_isLst_lst, u_isLst_own, ok_non, ok_bl, ok_int, ok_str, ok_tup, ok_lst, ok_own, ok_ref, u_len_str, u_len_tup, u_len_lst, u_len_own, u_int_int, u_neg_int, u_tuple_tup, u_list_tup, u_tuple_lst, u_list_lst, u_tuple_own, u_list_own, u_rev_tup, u_rev_lst, b_add_int, b_sub_int, b_add_tup, b_add_str, b_add_lst, b_mul_int, b_mod_int, b_fdiv_int, b_eq, b_ne, b_lt_int, b_lt_str, b_le_int, b_le_str, b_gt_int, b_gt_str, b_ge_int, b_ge_str, b_in_tup, b_in_lst, b_nin_tup, b_in_str, b_nin_str, b_is_bl, b_isn_bl, b_ix_tup, b_ix_lst, b_ix_str, eqO_int, eqO_str, eqO_bl, it_tup, it_lst, it_str, intOf_int, zip_tup, zip_lst, rng1_int, rng2_int, cut_tup, cut_lst, set0, setS, bindT1, bindT2, ownK_t, ownK_f, cut_own, b_in_own, b_nin_own, b_nin_lst, b_ix_own, bindP2, ok_pr, sq_lst, sq_own, sq_tup, idx_t, idx_l, idx_o, lam_pur, lam_err, try_pur, try_err, hdR_cons, raise_bnd, enu_tup, sets2, wipe1, wipe2, app_own, frz_own, lstK_lst, isStr_str, enu_lst, map_s, map_n, ofO_n]
    have hc2 : itr (runF T.fns T.C (k + 1)) T.C (.val (.cut (.var 5) (.val (.var 4)) .nil)) [some (dSetup u), some (.str p'.1), some (.int (i : Int)), some (.str v), some (.int (m.findIdx (fun z => z == p') : Nat)), some (.own (m.map dP)), some (.str p'.2), none] = pur ((pyCut m (some (m.findIdx fun z => z == p' : Nat)) none).map dP) := by
      simp only [cut_map, ev_var, ev_lit, ev_con, ev_tup, ev_lst, ev_un, ev_bi, ev_ch, ev_not, ev_and, ev_or, ev_ite, ev_cut, ev_call, ev_cel, ev_at0, ev_meth, ev_dct, ev_get2, ev_idx, ev_lam, evL_nil, evL_cons, evO_nil, evO_val, evC_nil, evC_val, itr_val, itr_rng1, itr_rng2, itr_zip, ex_nil, ex_cons, ex_skip, ex_set, ex_own, ex_frz, ex_unp, ex_par, ex_app, ex_put, ex_bad, ex_rse, ex_rsf, ex_try, ex_paro, itr_enu, ex_ret, ex_drop, ex_ite, bnd_assoc, fit_non, fit_bl, fit_int, fit_str, fitL_nil, fitL_cons, eq_ii, eq_ss, eq_bb, List.any_cons, List.any_nil, Bool.or_false, Bool.and_self, Bool.and_true, Bool.true_and, slot0, slotS, ofO_some, some_bnd, pur_bnd, non_bnd, noE_pur, asBl_bl, bnd_ite, if_bl, if_true, if_false, Bool.false_eq_true, Bool.not_true, Bool.not_false, reduceIte, pyAt0, pyAt1, pyAt2, pyAt3, List.getElem?_cons_zero, List.getElem?_cons_succ, u_isStr_non, u_isStr_bl, u_isStr_int, u_isStr_str, u_isStr_tup, u_isStr_lst, u_isStr_own, u_isTup_non, u_isTup_bl, u_isTup_int, u_isTup_str, u_isTup_tup, u_isTup_lst, u_isTup_own, u_isInt_non, u_isInt_bl, u_isInt_int, u_isInt_str, u_isInt_tup, u_isInt_lst, u_isInt_own, u_isBl_non, u_isBl_bl, u_isBl_int, u_isBl_str, u_isBl_tup, u_isBl_lst, u_isBl_own, u_isLst_non, u_isLst_bl, u_isLst_int, u_isLst_str, u_isLst_tup, u_isLst_lst, u_isLst_own, ok_non, ok_bl, ok_int, ok_str, ok_tup, ok_lst, ok_own, ok_ref, u_len_str, u_len_tup, u_len_lst, u_len_own, u_int_int, u_neg_int, u_tuple_tup, u_list_tup, u_tuple_lst, u_list_lst, u_tuple_own, u_list_own, u_rev_tup, u_rev_lst, b_add_int, b_sub_int, b_add_tup, b_add_str, b_add_lst, b_mul_int, b_mod_int, b_fdiv_int, b_eq, b_ne, b_lt_int, b_lt_str, b_le_int, b_le_str, b_gt_int, b_gt_str, b_ge_int, b_ge_str, b_in_tup, b_in_lst, b_nin_tup, b_in_str, b_nin_str, b_is_bl, b_isn_bl, b_ix_tup, b_ix_lst, b_ix_str, eqO_int, eqO_str, eqO_bl, it_tup, it_lst, it_str, intOf_int, zip_tup, zip_lst, rng1_int, rng2_int, cut_tup, cut_lst, set0, setS, bindT1, bindT2, ownK_t, ownK_f, cut_own, b_in_own, b_nin_own, b_nin_lst, b_ix_own, bindP2, ok_pr, sq_lst, sq_own, sq_tup, idx_t, idx_l, idx_o, lam_pur, lam_err, try_pur, try_err, hdR_cons, raise_bnd, enu_tup, sets2, wipe1, wipe2, app_own, frz_own, lstK_lst, isStr_str, enu_lst, map_s, map_n, ofO_n]
    have hx : idxO false (.own (m.map dP)) (.tup [.str p'.1, .str p'.2]) = some (.int (m.findIdx (fun z => z == p') : Nat)) := idx_dP hc
    simp only [hx, comp_q (s := 7) (fun _ => rfl) hc1, comp_q (s := 7) (fun _ => rfl) hc2, ev_var, ev_lit, ev_con, ev_tup, ev_lst, ev_un, ev_bi, ev_ch, ev_not, ev_and, ev_or, ev_ite, ev_cut, ev_call, ev_cel, ev_at0, ev_meth, ev_dct, ev_get2, ev_idx, ev_lam, evL_nil, evL_cons, evO_nil, evO_val, evC_nil, evC_val, itr_val, itr_rng1, itr_rng2, itr_zip, ex_nil, ex_cons, ex_skip, ex_set, ex_own, ex_frz, ex_unp, ex_par, ex_app, ex_put, ex_bad, ex_rse, ex_rsf, ex_try, ex_paro, itr_enu, ex_ret, ex_drop, ex_ite, bnd_assoc, fit_non, fit_bl, fit_int, fit_str, fitL_nil, fitL_cons, eq_ii, eq_ss, eq_bb, List.any_cons, List.any_nil, Bool.or_false, Bool.and_self, Bool.and_true, Bool.true_and, slot0, slotS, ofO_some, some_bnd, pur_bnd, non_bnd, noE_pur, asBl_bl, bnd_ite, if_bl, if_true, if_false, Bool.false_eq_true, Bool.not_true, Bool.not_false, reduceIte, pyAt0, pyAt1, pyAt2, pyAt3, List.getElem?_cons_zero, List.getElem?_cons_succ, u_isStr_non, u_isStr_bl, u_isStr_int, u_isStr_str, u_isStr_tup, u_isStr_lst, u_isStr_own, u_isTup_non, u_isTup_bl, u_isTup_int, u_isTup_str, u_isTup_tup, u_isTup_lst, u_isTup_own, u_isInt_non, u_isInt_bl, u_isInt_int, u_isInt_str, u_isInt_tup, u_isInt_lst, u_isInt_own, u_isBl_non, u_isBl_bl, u_isBl_int, u_isBl_str, u_isBl_tup, u_isBl_lst, u_isBl_own, u_isLst_non, u_isLst_bl, u_isLst_int, u_isLst_str, u_isLst_tup, u_isLst_lst, u_isLst_own, ok_non, ok_bl, ok_int, ok_str, ok_tup, ok_lst, ok_own, ok_ref, u_len_str, u_len_tup, u_len_lst, u_len_own, u_int_int, u_neg_int, u_tuple_tup, u_list_tup, u_tuple_lst, u_list_lst, u_tuple_own, u_list_own, u_rev_tup, u_rev_lst, b_add_int, b_sub_int, b_add_tup, b_add_str, b_add_lst, b_mul_int, b_mod_int, b_fdiv_int, b_eq, b_ne, b_lt_int, b_lt_str, b_le_int, b_le_str, b_gt_int, b_gt_str, b_ge_int, b_ge_str, b_in_tup, b_in_lst, b_nin_tup, b_in_str, b_nin_str, b_is_bl, b_isn_bl, b_ix_tup, b_ix_lst, b_ix_str, eqO_int, eqO_str, eqO_bl, it_tup, it_lst, it_str, intOf_int, zip_tup, zip_lst, rng1_int, rng2_int, cut_tup, cut_lst, set0, setS, bindT1, bindT2, ownK_t, ownK_f, cut_own, b_in_own, b_nin_own, b_nin_lst, b_ix_own, bindP2, ok_pr, sq_lst, sq_own, sq_tup, idx_t, idx_l, idx_o, lam_pur, lam_err, try_pur, try_err, hdR_cons, raise_bnd, enu_tup, sets2, wipe1, wipe2, app_own, frz_own, lstK_lst, isStr_str, enu_lst, map_s, map_n, ofO_n]
    unfold ech
    rw [e]
    rfl
  · rintro met p ρ hp rfl
    have f1 : (D.tup [.str p.1, .str p.2]).fit deep = true := fit_dP (p := p) (n := 59)
    have f2 : D.fitL deep (met.map dP) = true := fitL_dP (n := 59)
    have f3 : ((met.map dP).any fun z => z.eq (.tup [.str p.1, .str p.2])) = met.contains p := any_dP
    simp only [f1, f2, f3, ev_var, ev_lit, ev_con, ev_tup, ev_lst, ev_un, ev_bi, ev_ch, ev_not, ev_and, ev_or, ev_ite, ev_cut, ev_call, ev_cel, ev_at0, ev_meth, ev_dct, ev_get2, ev_idx, ev_lam, evL_nil, evL_cons, evO_nil, evO_val, evC_nil, evC_val, itr_val, itr_rng1, itr_rng2, itr_zip, ex_nil, ex_cons, ex_skip, ex_set, ex_own, ex_frz, ex_unp, ex_par, ex_app, ex_put, ex_bad, ex_rse, ex_rsf, ex_try, ex_paro, itr_enu, ex_ret, ex_drop, ex_ite, bnd_assoc, fit_non, fit_bl, fit_int, fit_str, fitL_nil, fitL_cons, eq_ii, eq_ss, eq_bb, List.any_cons, List.any_nil, Bool.or_false, Bool.and_self, Bool.and_true, Bool.true_and, slot0, slotS, ofO_some, some_bnd, pur_bnd, non_bnd, noE_pur, asBl_bl, bnd_ite, if_bl, if_true, if_false, Bool.false_eq_true, Bool.not_true, Bool.not_false, reduceIte, pyAt0, pyAt1, pyAt2, pyAt3, List.getElem?_cons_zero, List.getElem?_cons_succ, u_isStr_non, u_isStr_bl, u_isStr_int, u_isStr_str, u_isStr_tup, u_isStr_lst, u_isStr_own, u_isTup_non, u_isTup_bl, u_isTup_int, u_isTup_str, u_isTup_tup, u_isTup_lst, u_isTup_own, u_isInt_non, u_isInt_bl, u_isInt_int, u_isInt_str, u_isInt_tup, u_isInt_lst, u_isInt_own, u_isBl_non, u_isBl_bl, u_isBl_int, u_isBl_str, u_isBl_tup, u_isBl_lst, u_isBl_own, u_isLst_non, u_isLst_bl, u_isLst_int, u_isLst_str, u_isLst_tup, u_isLst_lst, u_isLst_own, ok_non, ok_bl, ok_int, ok_str, ok_tup, ok_lst, ok_own, ok_ref, u_len_str, u_len_tup, u_len_lst, u_len_own, u_int_int, u_neg_int, u_tuple_tup, u_list_tup, u_tuple_lst, u_list_lst, u_tuple_own, u_list_own, u_rev_tup, u_rev_lst, b_add_int, b_sub_int, b_add_tup, b_add_str, b_add_lst, b_mul_int, b_mod_int, b_fdiv_int, b_eq, b_ne, b_lt_int, b_lt_str, b_le_int, b_le_str, b_gt_int, b_gt_str, b_ge_int, b_ge_str, b_in_tup, b_in_lst, b_nin_tup, b_in_str, b_nin_str, b_is_bl, b_isn_bl, b_ix_tup, b_ix_lst, b_ix_str, eqO_int, eqO_str, eqO_bl, it_tup, it_lst, it_str, intOf_int, zip_tup, zip_lst, rng1_int, rng2_int, cut_tup, cut_lst, set0, setS, bindT1, bindT2, ownK_t, ownK_f, cut_own, b_in_own, b_nin_own, b_nin_lst, b_ix_own, bindP2, ok_pr, sq_lst, sq_own, sq_tup, idx_t, idx_l, idx_o, lam_pur, lam_err, try_pur, try_err, hdR_cons, raise_bnd, enu_tup, sets2, wipe1, wipe2, app_own, frz_own, lstK_lst, isStr_str, enu_lst, map_s, map_n, ofO_n]
  · rintro met p ρ hp hm rfl
    have hl2 : (met.map dP).length < lim := by rw [List.length_map]; unfold lim; omega
    have q25 := r25s k hp.1
    have q24' := r24s k o.g (oth_sd (w := p.1)) (fi_at o.g (oth p.1) hf) hp.2
    refine ⟨[some (dSetup u), some (.str (oth p.1)), some (.int (i : Int)), some (.str v), none, some (.own ((met ++ [p]).map dP)), some (.str (nx u i f p).2), none], ?_, rfl⟩
    simp only [hl2, ok_setup, q25, q24', ev_var, ev_lit, ev_con, ev_tup, ev_lst, ev_un, ev_bi, ev_ch, ev_not, ev_and, ev_or, ev_ite, ev_cut, ev_call, ev_cel, ev_at0, ev_meth, ev_dct, ev_get2, ev_idx, ev_lam, evL_nil, evL_cons, evO_nil, evO_val, evC_nil, evC_val, itr_val, itr_rng1, itr_rng2, itr_zip, ex_nil, ex_cons, ex_skip, ex_set, ex_own, ex_frz, ex_unp, ex_par, ex_app, ex_put, ex_bad, ex_rse, ex_rsf, ex_try, ex_paro, itr_enu, ex_ret, ex_drop, ex_ite, bnd_assoc, fit_non, fit_bl, fit_int, fit_str, fitL_nil, fitL_cons, eq_ii, eq_ss, eq_bb, List.any_cons, List.any_nil, Bool.or_false, Bool.and_self, Bool.and_true, Bool.true_and, slot0, slotS, ofO_some, some_bnd, pur_bnd, non_bnd, noE_pur, asBl_bl, bnd_ite, if_bl, if_true, if_false, Bool.false_eq_true, Bool.not_true, Bool.not_false, reduceIte, pyAt0, pyAt1, pyAt2, pyAt3, List.getElem?_cons_zero, List.getElem?_cons_succ, u_isStr_non, u_isStr_bl, u_isStr_int, u_isStr_str, u_isStr_tup, u_isStr_lst, u_isStr_own, u_isTup_non, u_isTup_bl, u_isTup_int, u_isTup_str, u_isTup_tup, u_isTup_lst, u_isTup_own, u_isInt_non, u_isInt_bl, u_isInt_int, u_isInt_str, u_isInt_tup, u_isInt_lst, u_isInt_own, u_isBl_non, u_isBl_bl, u_isBl_int, u_isBl_str, u_isBl_tup, u_isBl_lst, u_isBl_own, u_isLst_non, u_isLst_bl, u_isLst_int, u_isLst_str, u_isLst_tup, u_isLst_lst, u_isLst_own, ok_non, ok_bl, ok_int, ok_str, ok_tup, ok_lst, ok_own, ok_ref, u_len_str, u_len_tup, u_len_lst, u_len_own, u_int_int, u_neg_int, u_tuple_tup, u_list_tup, u_tuple_lst, u_list_lst, u_tuple_own, u_list_own, u_rev_tup, u_rev_lst, b_add_int, b_sub_int, b_add_tup, b_add_str, b_add_lst, b_mul_int, b_mod_int, b_fdiv_int, b_eq, b_ne, b_lt_int, b_lt_str, b_le_int, b_le_str, b_gt_int, b_gt_str, b_ge_int, b_ge_str, b_in_tup, b_in_lst, b_nin_tup, b_in_str, b_nin_str, b_is_bl, b_isn_bl, b_ix_tup, b_ix_lst, b_ix_str, eqO_int, eqO_str, eqO_bl, it_tup, it_lst, it_str, intOf_int, zip_tup, zip_lst, rng1_int, rng2_int, cut_tup, cut_lst, set0, setS, bindT1, bindT2, ownK_t, ownK_f, cut_own, b_in_own, b_nin_own, b_nin_lst, b_ix_own, bindP2, ok_pr, sq_lst, sq_own, sq_tup, idx_t, idx_l, idx_o, lam_pur, lam_err, try_pur, try_err, hdR_cons, raise_bnd, enu_tup, sets2, wipe1, wipe2, app_own, frz_own, lstK_lst, isStr_str, enu_lst, map_s, map_n, ofO_n]
    rw [List.map_append]
    rfl
theorem for_map {Φ : Fun} {C : Nat → Option D} {ρ : Env} {tg : List Nat} {it : Ex} {b : Sx} {α σ : Type} (xs : List α) (em : α → D) (P : σ → Env → Prop) (step : σ → α → σ) (x0 : σ) (h : itr Φ C it ρ = pur (xs.map em)) (h0 : P x0 ρ)
    (hs : ∀ a ∈ xs, ∀ x ρ, P x ρ → ∃ ρ', (bnd (ofO (bindT tg (em a) ρ)) fun ρ'' => exS Φ C b ρ'') = pur (.nx ρ') ∧ P (step x a) ρ') : ∃ ρ', exS Φ C (.for_ tg it b) ρ = pur (.nx ρ') ∧ P (xs.foldl step x0) ρ' := by
  rw [ex_for, h, pur_bnd]
  clear h
  induction xs generalizing x0 ρ with
  | nil => exact ⟨ρ, rfl, h0⟩
  | cons a xs ih =>
    obtain ⟨ρ', e1, p1⟩ := hs a (List.mem_cons_self ..) x0 ρ h0
    obtain ⟨ρ'', e2, p2⟩ := ih (step x0 a) p1 fun y hy => hs y (List.mem_cons_of_mem _ hy)
    refine ⟨ρ'', ?_, p2⟩
    rw [List.map_cons]
    unfold forL
    rw [e1]
    exact e2
theorem for_app {Φ : Fun} {C : Nat → Option D} {ρ : Env} {tg : List Nat} {it : Ex} {b : Sx} {α : Type} (xs : List α) (em : α → D) (N : Nat) (P : List D → Env → Prop) (g : α → List D) (x0 : List D) (h : itr Φ C it ρ = pur (xs.map em)) (h0 : P x0 ρ) (hN : x0.length + (xs.flatMap g).length ≤ N)
    (hs : ∀ a ∈ xs, ∀ acc ρ, acc.length + (g a).length ≤ N → P acc ρ → ∃ ρ', (bnd (ofO (bindT tg (em a) ρ)) fun ρ'' => exS Φ C b ρ'') = pur (.nx ρ') ∧ P (acc ++ g a) ρ') : ∃ ρ', exS Φ C (.for_ tg it b) ρ = pur (.nx ρ') ∧ P (x0 ++ xs.flatMap g) ρ' := by
  rw [ex_for, h, pur_bnd]
  clear h
  induction xs generalizing x0 ρ with
  | nil => exact ⟨ρ, rfl, by simpa using h0⟩
  | cons a xs ih =>
    rw [List.flatMap_cons, List.length_append] at hN
    obtain ⟨ρ', e1, p1⟩ := hs a (List.mem_cons_self ..) x0 ρ (by omega) h0
    obtain ⟨ρ'', e2, p2⟩ := ih (x0 ++ g a) p1 (by rw [List.length_append]; omega) fun y hy => hs y (List.mem_cons_of_mem _ hy)
    refine ⟨ρ'', ?_, by rw [List.flatMap_cons, ← List.append_assoc]; exact p2⟩
    rw [List.map_cons]
    unfold forL
    rw [e1]
    exact e2
theorem enu_map {α : Type} (l : List α) (g : α → D) : enuL (l.map g) = (l.zipIdx).map fun p => D.pr (.int (p.2 : Int)) (g p.1) := by
  unfold enuL
  rw [List.length_map]
  apply List.ext_getElem?
  intro i
  rw [List.getElem?_map, List.getElem?_map, List.getElem?_zipIdx, List.zip, List.getElem?_zipWith, List.getElem?_map]
  by_cases h : i < l.length
  · rw [List.getElem?_range h, List.getElem?_eq_getElem h]
    simp
  · rw [List.getElem?_eq_none (l := l) (by omega)]
    cases (List.range l.length)[i]? <;> simp
theorem fold_app {α β : Type} (g : α → List β) : ∀ (xs : List α) (acc : List β), xs.foldl (fun acc x => acc ++ g x) acc = acc ++ xs.flatMap g
  | [], acc => by simp
  | x :: xs, acc => by
    rw [List.foldl_cons, fold_app g xs, List.flatMap_cons, List.append_assoc]
def badv (u : Su) (i : Nat) (f : Wo × List Wo) (w v : Wo) : Bool := stW f.2 (rowAt u w i) (stW f.2 (rowAt u (oth w) i) (stW f.2 (rowAt u w i) v)) != stW f.2 (rowAt u w i) v
def tri (f : Wo × List Wo) (w v : Wo) : D := .tup [.str w, .str f.1, .str v]
def unsF (u : Su) (w : Wo) (i : Nat) (f : Wo × List Wo) : List D := f.2.flatMap fun v => if badv u i f w v then [tri f w v] else []
def unsW (u : Su) (w : Wo) : List D := u.fs.zipIdx.flatMap fun p => unsF u w p.2 p.1
def unsU (u : Su) : List D := [wLeft, wRight].flatMap (unsW u)
theorem zip_at {u : Su} {p : (Wo × List Wo) × Nat} (h : p ∈ u.fs.zipIdx) : u.fs[p.2]? = some p.1 := by
  obtain ⟨f, i⟩ := p
  exact List.mem_zipIdx_iff_getElem?.mp h
theorem len_F {u : Su} (g : Gd u) {w : Wo} {i : Nat} {f : Wo × List Wo} (h : f ∈ u.fs) : (unsF u w i f).length ≤ 4 := by
  have h4 := (g.fs f h).2.2.1
  have key : ∀ l : List Wo, (l.flatMap fun v => if badv u i f w v then [tri f w v] else []).length ≤ l.length := by
    intro l
    induction l with
    | nil => simp
    | cons a l ih =>
      rw [List.flatMap_cons, List.length_append, List.length_cons]
      split
      · rw [List.length_singleton]; omega
      · rw [List.length_nil]; omega
  exact Nat.le_trans (key f.2) h4
theorem flat_len {α : Type} {g : α → List D} {n : Nat} : ∀ {l : List α}, (∀ x ∈ l, (g x).length ≤ n) → (l.flatMap g).length ≤ l.length * n
  | [], _ => by simp
  | x :: l, h => by
    rw [List.flatMap_cons, List.length_append, List.length_cons]
    have h1 := h x (List.mem_cons_self ..)
    have h2 := flat_len (l := l) (g := g) (n := n) fun y hy => h y (List.mem_cons_of_mem _ hy)
    rw [Nat.succ_mul]
    omega
theorem len_W {u : Su} (g : Gd u) {w : Wo} : (unsW u w).length ≤ 8 := by
  have := flat_len (l := u.fs.zipIdx) (g := fun p => unsF u w p.2 p.1) (n := 4) fun p hp => len_F g (List.mem_of_getElem? (zip_at hp))
  rw [List.length_zipIdx] at this
  have h2 := g.n2
  unfold unsW
  omega
theorem len_U {u : Su} (g : Gd u) : (unsU u).length ≤ 16 := by
  have := flat_len (l := [wLeft, wRight]) (g := unsW u) (n := 8) fun w _ => len_W g
  unfold unsU
  simpa using this
theorem r17s (k : Nat) {u : Su} (o : OkU u) : F (k + 6) 17 [dSetup u] = pur (.lst (unsU u)) := by
  rw [F, runF_at (fd := f17) rfl rfl]
  show bnd (exS _ _ b17 [some (dSetup u), none, none, none, none, none, none, none]) _ = _
  unfold b17
  have q9 := r9s k o
  have a3 : bop .ix (dSetup u) (.int 0) = some (.tup (u.fs.map dField)) := rfl
  have main := for_app (Φ := runF T.fns T.C (k + 5)) (C := T.C) (ρ := [some (dSetup u), some (.own []), none, none, none, none, none, none]) (tg := [2]) (it := .val (.con 0)) (b := (.cons (.for_ [3, 4] (.enu (.bi .ix (.var 0) (.lit (.int 0))))
(.cons (.for_ [5] (.val (.bi .ix (.var 4) (.lit (.int 1))))
(.cons (.set 6 (.call 15 (.cons (.var 0) (.cons (.var 2) (.cons (.var 3) (.cons (.var 5) .nil))))))
(.cons (.set 7 (.call 15 (.cons (.var 0) (.cons (.call 13 (.cons (.var 2) .nil)) (.cons (.var 3) (.cons (.var 6) .nil))))))
(.cons (.ite (.bi .ne (.call 15 (.cons (.var 0) (.cons (.var 2) (.cons (.var 3) (.cons (.var 7) .nil))))) (.var 6))
(.cons (.app 1 (.tup (.cons (.var 2) (.cons (.bi .ix (.var 4) (.lit (.int 0))) (.cons (.var 5) .nil)))))
.nil)
.nil)
.nil))))
.nil))
.nil)) [wLeft, wRight] D.str 16 (fun acc ρ => ∃ o2 o3 o4 o5 o6 o7, ρ = [some (dSetup u), some (.own acc), o2, o3, o4, o5, o6, o7]) (unsW u) []
    (by simp only [conS, ev_var, ev_lit, ev_con, ev_tup, ev_lst, ev_un, ev_bi, ev_ch, ev_not, ev_and, ev_or, ev_ite, ev_cut, ev_call, ev_cel, ev_at0, ev_meth, ev_dct, ev_get2, ev_idx, ev_lam, evL_nil, evL_cons, evO_nil, evO_val, evC_nil, evC_val, itr_val, itr_rng1, itr_rng2, itr_zip, ex_nil, ex_cons, ex_skip, ex_set, ex_own, ex_frz, ex_unp, ex_par, ex_app, ex_put, ex_bad, ex_rse, ex_rsf, ex_try, ex_paro, itr_enu, ex_ret, ex_drop, ex_ite, bnd_assoc, fit_non, fit_bl, fit_int, fit_str, fitL_nil, fitL_cons, eq_ii, eq_ss, eq_bb, List.any_cons, List.any_nil, Bool.or_false, Bool.and_self, Bool.and_true, Bool.true_and, slot0, slotS, ofO_some, some_bnd, pur_bnd, non_bnd, noE_pur, asBl_bl, bnd_ite, if_bl, if_true, if_false, Bool.false_eq_true, Bool.not_true, Bool.not_false, reduceIte, pyAt0, pyAt1, pyAt2, pyAt3, List.getElem?_cons_zero, List.getElem?_cons_succ, u_isStr_non, u_isStr_bl, u_isStr_int, u_isStr_str, u_isStr_tup, u_isStr_lst, u_isStr_own, u_isTup_non, u_isTup_bl, u_isTup_int, u_isTup_str, u_isTup_tup, u_isTup_lst, u_isTup_own, u_isInt_non, u_isInt_bl, u_isInt_int, u_isInt_str, u_isInt_tup, u_isInt_lst, u_isInt_own, u_isBl_non, u_isBl_bl, u_isBl_int, u_isBl_str, u_isBl_tup, u_isBl_lst, u_isBl_own, u_isLst_non, u_isLst_bl, u_isLst_int, u_isLst_str, u_isLst_tup, u_isLst_lst, u_isLst_own, ok_non, ok_bl, ok_int, ok_str, ok_tup, ok_lst, ok_own, ok_ref, u_len_str, u_len_tup, u_len_lst, u_len_own, u_int_int, u_neg_int, u_tuple_tup, u_list_tup, u_tuple_lst, u_list_lst, u_tuple_own, u_list_own, u_rev_tup, u_rev_lst, b_add_int, b_sub_int, b_add_tup, b_add_str, b_add_lst, b_mul_int, b_mod_int, b_fdiv_int, b_eq, b_ne, b_lt_int, b_lt_str, b_le_int, b_le_str, b_gt_int, b_gt_str, b_ge_int, b_ge_str, b_in_tup, b_in_lst, b_nin_tup, b_in_str, b_nin_str, b_is_bl, b_isn_bl, b_ix_tup, b_ix_lst, b_ix_str, eqO_int, eqO_str, eqO_bl, it_tup, it_lst, it_str, intOf_int, zip_tup, zip_lst, rng1_int, rng2_int, cut_tup, cut_lst, set0, setS, bindT1, bindT2, ownK_t, ownK_f, cut_own, b_in_own, b_nin_own, b_nin_lst, b_ix_own, bindP2, ok_pr, sq_lst, sq_own, sq_tup, idx_t, idx_l, idx_o, lam_pur, lam_err, try_pur, try_err, hdR_cons, raise_bnd, enu_tup, sets2, wipe1, wipe2, app_own, frz_own, lstK_lst, isStr_str, enu_lst, map_s, map_n, ofO_n]; rfl) ⟨_, _, _, _, _, _, rfl⟩ (by have := len_U o.g; simpa [unsU] using this) ?_
  · obtain ⟨ρ', e1, o2, o3, o4, o5, o6, o7, rfl⟩ := main
    simp only [q9, ok_setup, e1, ev_var, ev_lit, ev_con, ev_tup, ev_lst, ev_un, ev_bi, ev_ch, ev_not, ev_and, ev_or, ev_ite, ev_cut, ev_call, ev_cel, ev_at0, ev_meth, ev_dct, ev_get2, ev_idx, ev_lam, evL_nil, evL_cons, evO_nil, evO_val, evC_nil, evC_val, itr_val, itr_rng1, itr_rng2, itr_zip, ex_nil, ex_cons, ex_skip, ex_set, ex_own, ex_frz, ex_unp, ex_par, ex_app, ex_put, ex_bad, ex_rse, ex_rsf, ex_try, ex_paro, itr_enu, ex_ret, ex_drop, ex_ite, bnd_assoc, fit_non, fit_bl, fit_int, fit_str, fitL_nil, fitL_cons, eq_ii, eq_ss, eq_bb, List.any_cons, List.any_nil, Bool.or_false, Bool.and_self, Bool.and_true, Bool.true_and, slot0, slotS, ofO_some, some_bnd, pur_bnd, non_bnd, noE_pur, asBl_bl, bnd_ite, if_bl, if_true, if_false, Bool.false_eq_true, Bool.not_true, Bool.not_false, reduceIte, pyAt0, pyAt1, pyAt2, pyAt3, List.getElem?_cons_zero, List.getElem?_cons_succ, u_isStr_non, u_isStr_bl, u_isStr_int, u_isStr_str, u_isStr_tup, u_isStr_lst, u_isStr_own, u_isTup_non, u_isTup_bl, u_isTup_int, u_isTup_str, u_isTup_tup, u_isTup_lst, u_isTup_own, u_isInt_non, u_isInt_bl, u_isInt_int, u_isInt_str, u_isInt_tup, u_isInt_lst, u_isInt_own, u_isBl_non, u_isBl_bl, u_isBl_int, u_isBl_str, u_isBl_tup, u_isBl_lst, u_isBl_own, u_isLst_non, u_isLst_bl, u_isLst_int, u_isLst_str, u_isLst_tup, u_isLst_lst, u_isLst_own, ok_non, ok_bl, ok_int, ok_str, ok_tup, ok_lst, ok_own, ok_ref, u_len_str, u_len_tup, u_len_lst, u_len_own, u_int_int, u_neg_int, u_tuple_tup, u_list_tup, u_tuple_lst, u_list_lst, u_tuple_own, u_list_own, u_rev_tup, u_rev_lst, b_add_int, b_sub_int, b_add_tup, b_add_str, b_add_lst, b_mul_int, b_mod_int, b_fdiv_int, b_eq, b_ne, b_lt_int, b_lt_str, b_le_int, b_le_str, b_gt_int, b_gt_str, b_ge_int, b_ge_str, b_in_tup, b_in_lst, b_nin_tup, b_in_str, b_nin_str, b_is_bl, b_isn_bl, b_ix_tup, b_ix_lst, b_ix_str, eqO_int, eqO_str, eqO_bl, it_tup, it_lst, it_str, intOf_int, zip_tup, zip_lst, rng1_int, rng2_int, cut_tup, cut_lst, set0, setS, bindT1, bindT2, ownK_t, ownK_f, cut_own, b_in_own, b_nin_own, b_nin_lst, b_ix_own, bindP2, ok_pr, sq_lst, sq_own, sq_tup, idx_t, idx_l, idx_o, lam_pur, lam_err, try_pur, try_err, hdR_cons, raise_bnd, enu_tup, sets2, wipe1, wipe2, app_own, frz_own, lstK_lst, isStr_str, enu_lst, map_s, map_n, ofO_n]
    rfl
  · rintro w hw acc _ hN ⟨o2, o3, o4, o5, o6, o7, rfl⟩
    have hsd : isSd w := by simpa [isSd] using hw
    simp only [ev_var, ev_lit, ev_con, ev_tup, ev_lst, ev_un, ev_bi, ev_ch, ev_not, ev_and, ev_or, ev_ite, ev_cut, ev_call, ev_cel, ev_at0, ev_meth, ev_dct, ev_get2, ev_idx, ev_lam, evL_nil, evL_cons, evO_nil, evO_val, evC_nil, evC_val, itr_val, itr_rng1, itr_rng2, itr_zip, ex_nil, ex_cons, ex_skip, ex_set, ex_own, ex_frz, ex_unp, ex_par, ex_app, ex_put, ex_bad, ex_rse, ex_rsf, ex_try, ex_paro, itr_enu, ex_ret, ex_drop, ex_ite, bnd_assoc, fit_non, fit_bl, fit_int, fit_str, fitL_nil, fitL_cons, eq_ii, eq_ss, eq_bb, List.any_cons, List.any_nil, Bool.or_false, Bool.and_self, Bool.and_true, Bool.true_and, slot0, slotS, ofO_some, some_bnd, pur_bnd, non_bnd, noE_pur, asBl_bl, bnd_ite, if_bl, if_true, if_false, Bool.false_eq_true, Bool.not_true, Bool.not_false, reduceIte, pyAt0, pyAt1, pyAt2, pyAt3, List.getElem?_cons_zero, List.getElem?_cons_succ, u_isStr_non, u_isStr_bl, u_isStr_int, u_isStr_str, u_isStr_tup, u_isStr_lst, u_isStr_own, u_isTup_non, u_isTup_bl, u_isTup_int, u_isTup_str, u_isTup_tup, u_isTup_lst, u_isTup_own, u_isInt_non, u_isInt_bl, u_isInt_int, u_isInt_str, u_isInt_tup, u_isInt_lst, u_isInt_own, u_isBl_non, u_isBl_bl, u_isBl_int, u_isBl_str, u_isBl_tup, u_isBl_lst, u_isBl_own, u_isLst_non, u_isLst_bl, u_isLst_int, u_isLst_str, u_isLst_tup, u_isLst_lst, u_isLst_own, ok_non, ok_bl, ok_int, ok_str, ok_tup, ok_lst, ok_own, ok_ref, u_len_str, u_len_tup, u_len_lst, u_len_own, u_int_int, u_neg_int, u_tuple_tup, u_list_tup, u_tuple_lst, u_list_lst, u_tuple_own, u_list_own, u_rev_tup, u_rev_lst, b_add_int, b_sub_int, b_add_tup, b_add_str, b_add_lst, b_mul_int, b_mod_int, b_fdiv_int, b_eq, b_ne, b_lt_int, b_lt_str, b_le_int, b_le_str, b_gt_int, b_gt_str, b_ge_int, b_ge_str, b_in_tup, b_in_lst, b_nin_tup, b_in_str, b_nin_str, b_is_bl, b_isn_bl, b_ix_tup, b_ix_lst, b_ix_str, eqO_int, eqO_str, eqO_bl, it_tup, it_lst, it_str, intOf_int, zip_tup, zip_lst, rng1_int, rng2_int, cut_tup, cut_lst, set0, setS, bindT1, bindT2, ownK_t, ownK_f, cut_own, b_in_own, b_nin_own, b_nin_lst, b_ix_own, bindP2, ok_pr, sq_lst, sq_own, sq_tup, idx_t, idx_l, idx_o, lam_pur, lam_err, try_pur, try_err, hdR_cons, raise_bnd, enu_tup, sets2, wipe1, wipe2, app_own, frz_own, lstK_lst, isStr_str, enu_lst, map_s, map_n, ofO_n]
    have inner := for_app (Φ := runF T.fns T.C (k + 5)) (C := T.C) (ρ := [some (dSetup u), some (.own acc), some (.str w), o3, o4, o5, o6, o7]) (tg := [3, 4]) (it := .enu (.bi .ix (.var 0) (.lit (.int 0)))) (b := (.cons (.for_ [5] (.val (.bi .ix (.var 4) (.lit (.int 1))))
(.cons (.set 6 (.call 15 (.cons (.var 0) (.cons (.var 2) (.cons (.var 3) (.cons (.var 5) .nil))))))
(.cons (.set 7 (.call 15 (.cons (.var 0) (.cons (.call 13 (.cons (.var 2) .nil)) (.cons (.var 3) (.cons (.var 6) .nil))))))
(.cons (.ite (.bi .ne (.call 15 (.cons (.var 0) (.cons (.var 2) (.cons (.var 3) (.cons (.var 7) .nil))))) (.var 6))
(.cons (.app 1 (.tup (.cons (.var 2) (.cons (.bi .ix (.var 4) (.lit (.int 0))) (.cons (.var 5) .nil)))))
.nil)
.nil)
.nil))))
.nil)) u.fs.zipIdx (fun p => .pr (.int (p.2 : Int)) (dField p.1)) 16 (fun acc ρ => ∃ o3 o4 o5 o6 o7, ρ = [some (dSetup u), some (.own acc), some (.str w), o3, o4, o5, o6, o7]) (fun p => unsF u w p.2 p.1) acc
      (by simp only [a3, enu_map, ev_var, ev_lit, ev_con, ev_tup, ev_lst, ev_un, ev_bi, ev_ch, ev_not, ev_and, ev_or, ev_ite, ev_cut, ev_call, ev_cel, ev_at0, ev_meth, ev_dct, ev_get2, ev_idx, ev_lam, evL_nil, evL_cons, evO_nil, evO_val, evC_nil, evC_val, itr_val, itr_rng1, itr_rng2, itr_zip, ex_nil, ex_cons, ex_skip, ex_set, ex_own, ex_frz, ex_unp, ex_par, ex_app, ex_put, ex_bad, ex_rse, ex_rsf, ex_try, ex_paro, itr_enu, ex_ret, ex_drop, ex_ite, bnd_assoc, fit_non, fit_bl, fit_int, fit_str, fitL_nil, fitL_cons, eq_ii, eq_ss, eq_bb, List.any_cons, List.any_nil, Bool.or_false, Bool.and_self, Bool.and_true, Bool.true_and, slot0, slotS, ofO_some, some_bnd, pur_bnd, non_bnd, noE_pur, asBl_bl, bnd_ite, if_bl, if_true, if_false, Bool.false_eq_true, Bool.not_true, Bool.not_false, reduceIte, pyAt0, pyAt1, pyAt2, pyAt3, List.getElem?_cons_zero, List.getElem?_cons_succ, u_isStr_non, u_isStr_bl, u_isStr_int, u_isStr_str, u_isStr_tup, u_isStr_lst, u_isStr_own, u_isTup_non, u_isTup_bl, u_isTup_int, u_isTup_str, u_isTup_tup, u_isTup_lst, u_isTup_own, u_isInt_non, u_isInt_bl, u_isInt_int, u_isInt_str, u_isInt_tup, u_isInt_lst, u_isInt_own, u_isBl_non, u_isBl_bl, u_isBl_int, u_isBl_str, u_isBl_tup, u_isBl_lst, u_isBl_own, u_isLst_non, u_isLst_bl, u_isLst_int, u_isLst_str, u_isLst_tup, u_isLst_lst, u_isLst_own, ok_non, ok_bl, ok_int, ok_str, ok_tup, ok_lst, ok_own, ok_ref, u_len_str, u_len_tup, u_len_lst, u_len_own, u_int_int, u_neg_int, u_tuple_tup, u_list_tup, u_tuple_lst, u_list_lst, u_tuple_own, u_list_own, u_rev_tup, u_rev_lst, b_add_int, b_sub_int, b_add_tup, b_add_str, b_add_lst, b_mul_int, b_mod_int, b_fdiv_int, b_eq, b_ne, b_lt_int, b_lt_str, b_le_int, b_le_str, b_gt_int, b_gt_str, b_ge_int, b_ge_str, b_in_tup, b_in_lst, b_nin_tup, b_in_str, b_nin_str, b_is_bl, b_isn_bl, b_ix_tup, b_ix_lst, b_ix_str, eqO_int, eqO_str, eqO_bl, it_tup, it_lst, it_str, intOf_int, zip_tup, zip_lst, rng1_int, rng2_int, cut_tup, cut_lst, set0, setS, bindT1, bindT2, ownK_t, ownK_f, cut_own, b_in_own, b_nin_own, b_nin_lst, b_ix_own, bindP2, ok_pr, sq_lst, sq_own, sq_tup, idx_t, idx_l, idx_o, lam_pur, lam_err, try_pur, try_err, hdR_cons, raise_bnd, enu_tup, sets2, wipe1, wipe2, app_own, frz_own, lstK_lst, isStr_str, enu_lst, map_s, map_n, ofO_n]) ⟨_, _, _, _, _, rfl⟩ hN ?_
    · obtain ⟨ρ', e1, o3, o4, o5, o6, o7, rfl⟩ := inner
      simp only [e1, ev_var, ev_lit, ev_con, ev_tup, ev_lst, ev_un, ev_bi, ev_ch, ev_not, ev_and, ev_or, ev_ite, ev_cut, ev_call, ev_cel, ev_at0, ev_meth, ev_dct, ev_get2, ev_idx, ev_lam, evL_nil, evL_cons, evO_nil, evO_val, evC_nil, evC_val, itr_val, itr_rng1, itr_rng2, itr_zip, ex_nil, ex_cons, ex_skip, ex_set, ex_own, ex_frz, ex_unp, ex_par, ex_app, ex_put, ex_bad, ex_rse, ex_rsf, ex_try, ex_paro, itr_enu, ex_ret, ex_drop, ex_ite, bnd_assoc, fit_non, fit_bl, fit_int, fit_str, fitL_nil, fitL_cons, eq_ii, eq_ss, eq_bb, List.any_cons, List.any_nil, Bool.or_false, Bool.and_self, Bool.and_true, Bool.true_and, slot0, slotS, ofO_some, some_bnd, pur_bnd, non_bnd, noE_pur, asBl_bl, bnd_ite, if_bl, if_true, if_false, Bool.false_eq_true, Bool.not_true, Bool.not_false, reduceIte, pyAt0, pyAt1, pyAt2, pyAt3, List.getElem?_cons_zero, List.getElem?_cons_succ, u_isStr_non, u_isStr_bl, u_isStr_int, u_isStr_str, u_isStr_tup, u_isStr_lst, u_isStr_own, u_isTup_non, u_isTup_bl, u_isTup_int, u_isTup_str, u_isTup_tup, u_isTup_lst, u_isTup_own, u_isInt_non, u_isInt_bl, u_isInt_int, u_isInt_str, u_isInt_tup, u_isInt_lst, u_isInt_own, u_isBl_non, u_isBl_bl, u_isBl_int, u_isBl_str, u_isBl_tup, u_isBl_lst, u_isBl_own, u_isLst_non, u_isLst_bl, u_isLst_int, u_isLst_str, u_isLst_tup, u_isLst_lst, u_isLst_own, ok_non, ok_bl, ok_int, ok_str, ok_tup, ok_lst, ok_own, ok_ref, u_len_str, u_len_tup, u_len_lst, u_len_own, u_int_int, u_neg_int, u_tuple_tup, u_list_tup, u_tuple_lst, u_list_lst, u_tuple_own, u_list_own, u_rev_tup, u_rev_lst, b_add_int, b_sub_int, b_add_tup, b_add_str, b_add_lst, b_mul_int, b_mod_int, b_fdiv_int, b_eq, b_ne, b_lt_int, b_lt_str, b_le_int, b_le_str, b_gt_int, b_gt_str, b_ge_int, b_ge_str, b_in_tup, b_in_lst, b_nin_tup, b_in_str, b_nin_str, b_is_bl, b_isn_bl, b_ix_tup, b_ix_lst, b_ix_str, eqO_int, eqO_str, eqO_bl, it_tup, it_lst, it_str, intOf_int, zip_tup, zip_lst, rng1_int, rng2_int, cut_tup, cut_lst, set0, setS, bindT1, bindT2, ownK_t, ownK_f, cut_own, b_in_own, b_nin_own, b_nin_lst, b_ix_own, bindP2, ok_pr, sq_lst, sq_own, sq_tup, idx_t, idx_l, idx_o, lam_pur, lam_err, try_pur, try_err, hdR_cons, raise_bnd, enu_tup, sets2, wipe1, wipe2, app_own, frz_own, lstK_lst, isStr_str, enu_lst, map_s, map_n, ofO_n]
      exact ⟨_, rfl, _, _, _, _, _, _, rfl⟩
    · rintro ⟨f, i⟩ hp acc _ hN ⟨o3, o4, o5, o6, o7, rfl⟩
      have hf := zip_at hp
      have a5 : bop .ix (dField f) (.int 1) = some (.tup (f.2.map .str)) := rfl
      have a6 : bop .ix (dField f) (.int 0) = some (.str f.1) := rfl
      simp only [ev_var, ev_lit, ev_con, ev_tup, ev_lst, ev_un, ev_bi, ev_ch, ev_not, ev_and, ev_or, ev_ite, ev_cut, ev_call, ev_cel, ev_at0, ev_meth, ev_dct, ev_get2, ev_idx, ev_lam, evL_nil, evL_cons, evO_nil, evO_val, evC_nil, evC_val, itr_val, itr_rng1, itr_rng2, itr_zip, ex_nil, ex_cons, ex_skip, ex_set, ex_own, ex_frz, ex_unp, ex_par, ex_app, ex_put, ex_bad, ex_rse, ex_rsf, ex_try, ex_paro, itr_enu, ex_ret, ex_drop, ex_ite, bnd_assoc, fit_non, fit_bl, fit_int, fit_str, fitL_nil, fitL_cons, eq_ii, eq_ss, eq_bb, List.any_cons, List.any_nil, Bool.or_false, Bool.and_self, Bool.and_true, Bool.true_and, slot0, slotS, ofO_some, some_bnd, pur_bnd, non_bnd, noE_pur, asBl_bl, bnd_ite, if_bl, if_true, if_false, Bool.false_eq_true, Bool.not_true, Bool.not_false, reduceIte, pyAt0, pyAt1, pyAt2, pyAt3, List.getElem?_cons_zero, List.getElem?_cons_succ, u_isStr_non, u_isStr_bl, u_isStr_int, u_isStr_str, u_isStr_tup, u_isStr_lst, u_isStr_own, u_isTup_non, u_isTup_bl, u_isTup_int, u_isTup_str, u_isTup_tup, u_isTup_lst, u_isTup_own, u_isInt_non, u_isInt_bl, u_isInt_int, u_isInt_str, u_isInt_tup, u_isInt_lst, u_isInt_own, u_isBl_non, u_isBl_bl, u_isBl_int, u_isBl_str, u_isBl_tup, u_isBl_lst, u_isBl_own, u_isLst_non, u_isLst_bl, u_isLst_int, u_isLst_str, u_isLst_tup, u_isLst_lst, u_isLst_own, ok_non, ok_bl, ok_int, ok_str, ok_tup, ok_lst, ok_own, ok_ref, u_len_str, u_len_tup, u_len_lst, u_len_own, u_int_int, u_neg_int, u_tuple_tup, u_list_tup, u_tuple_lst, u_list_lst, u_tuple_own, u_list_own, u_rev_tup, u_rev_lst, b_add_int, b_sub_int, b_add_tup, b_add_str, b_add_lst, b_mul_int, b_mod_int, b_fdiv_int, b_eq, b_ne, b_lt_int, b_lt_str, b_le_int, b_le_str, b_gt_int, b_gt_str, b_ge_int, b_ge_str, b_in_tup, b_in_lst, b_nin_tup, b_in_str, b_nin_str, b_is_bl, b_isn_bl, b_ix_tup, b_ix_lst, b_ix_str, eqO_int, eqO_str, eqO_bl, it_tup, it_lst, it_str, intOf_int, zip_tup, zip_lst, rng1_int, rng2_int, cut_tup, cut_lst, set0, setS, bindT1, bindT2, ownK_t, ownK_f, cut_own, b_in_own, b_nin_own, b_nin_lst, b_ix_own, bindP2, ok_pr, sq_lst, sq_own, sq_tup, idx_t, idx_l, idx_o, lam_pur, lam_err, try_pur, try_err, hdR_cons, raise_bnd, enu_tup, sets2, wipe1, wipe2, app_own, frz_own, lstK_lst, isStr_str, enu_lst, map_s, map_n, ofO_n]
      have inmost := for_app (Φ := runF T.fns T.C (k + 5)) (C := T.C) (ρ := [some (dSetup u), some (.own acc), some (.str w), some (.int (i : Int)), some (dField f), o5, o6, o7]) (tg := [5]) (it := .val (.bi .ix (.var 4) (.lit (.int 1)))) (b := (.cons (.set 6 (.call 15 (.cons (.var 0) (.cons (.var 2) (.cons (.var 3) (.cons (.var 5) .nil))))))
(.cons (.set 7 (.call 15 (.cons (.var 0) (.cons (.call 13 (.cons (.var 2) .nil)) (.cons (.var 3) (.cons (.var 6) .nil))))))
(.cons (.ite (.bi .ne (.call 15 (.cons (.var 0) (.cons (.var 2) (.cons (.var 3) (.cons (.var 7) .nil))))) (.var 6))
(.cons (.app 1 (.tup (.cons (.var 2) (.cons (.bi .ix (.var 4) (.lit (.int 0))) (.cons (.var 5) .nil)))))
.nil)
.nil)
.nil)))) f.2 D.str 16 (fun acc ρ => ∃ o5 o6 o7, ρ = [some (dSetup u), some (.own acc), some (.str w), some (.int (i : Int)), some (dField f), o5, o6, o7]) (fun v => if badv u i f w v then [tri f w v] else []) acc
        (by simp only [a5, ev_var, ev_lit, ev_con, ev_tup, ev_lst, ev_un, ev_bi, ev_ch, ev_not, ev_and, ev_or, ev_ite, ev_cut, ev_call, ev_cel, ev_at0, ev_meth, ev_dct, ev_get2, ev_idx, ev_lam, evL_nil, evL_cons, evO_nil, evO_val, evC_nil, evC_val, itr_val, itr_rng1, itr_rng2, itr_zip, ex_nil, ex_cons, ex_skip, ex_set, ex_own, ex_frz, ex_unp, ex_par, ex_app, ex_put, ex_bad, ex_rse, ex_rsf, ex_try, ex_paro, itr_enu, ex_ret, ex_drop, ex_ite, bnd_assoc, fit_non, fit_bl, fit_int, fit_str, fitL_nil, fitL_cons, eq_ii, eq_ss, eq_bb, List.any_cons, List.any_nil, Bool.or_false, Bool.and_self, Bool.and_true, Bool.true_and, slot0, slotS, ofO_some, some_bnd, pur_bnd, non_bnd, noE_pur, asBl_bl, bnd_ite, if_bl, if_true, if_false, Bool.false_eq_true, Bool.not_true, Bool.not_false, reduceIte, pyAt0, pyAt1, pyAt2, pyAt3, List.getElem?_cons_zero, List.getElem?_cons_succ, u_isStr_non, u_isStr_bl, u_isStr_int, u_isStr_str, u_isStr_tup, u_isStr_lst, u_isStr_own, u_isTup_non, u_isTup_bl, u_isTup_int, u_isTup_str, u_isTup_tup, u_isTup_lst, u_isTup_own, u_isInt_non, u_isInt_bl, u_isInt_int, u_isInt_str, u_isInt_tup, u_isInt_lst, u_isInt_own, u_isBl_non, u_isBl_bl, u_isBl_int, u_isBl_str, u_isBl_tup, u_isBl_lst, u_isBl_own, u_isLst_non, u_isLst_bl, u_isLst_int, u_isLst_str, u_isLst_tup, u_isLst_lst, u_isLst_own, ok_non, ok_bl, ok_int, ok_str, ok_tup, ok_lst, ok_own, ok_ref, u_len_str, u_len_tup, u_len_lst, u_len_own, u_int_int, u_neg_int, u_tuple_tup, u_list_tup, u_tuple_lst, u_list_lst, u_tuple_own, u_list_own, u_rev_tup, u_rev_lst, b_add_int, b_sub_int, b_add_tup, b_add_str, b_add_lst, b_mul_int, b_mod_int, b_fdiv_int, b_eq, b_ne, b_lt_int, b_lt_str, b_le_int, b_le_str, b_gt_int, b_gt_str, b_ge_int, b_ge_str, b_in_tup, b_in_lst, b_nin_tup, b_in_str, b_nin_str, b_is_bl, b_isn_bl, b_ix_tup, b_ix_lst, b_ix_str, eqO_int, eqO_str, eqO_bl, it_tup, it_lst, it_str, intOf_int, zip_tup, zip_lst, rng1_int, rng2_int, cut_tup, cut_lst, set0, setS, bindT1, bindT2, ownK_t, ownK_f, cut_own, b_in_own, b_nin_own, b_nin_lst, b_ix_own, bindP2, ok_pr, sq_lst, sq_own, sq_tup, idx_t, idx_l, idx_o, lam_pur, lam_err, try_pur, try_err, hdR_cons, raise_bnd, enu_tup, sets2, wipe1, wipe2, app_own, frz_own, lstK_lst, isStr_str, enu_lst, map_s, map_n, ofO_n]) ⟨_, _, _, rfl⟩ hN ?_
      · obtain ⟨ρ', e1, o5, o6, o7, rfl⟩ := inmost
        simp only [e1, ev_var, ev_lit, ev_con, ev_tup, ev_lst, ev_un, ev_bi, ev_ch, ev_not, ev_and, ev_or, ev_ite, ev_cut, ev_call, ev_cel, ev_at0, ev_meth, ev_dct, ev_get2, ev_idx, ev_lam, evL_nil, evL_cons, evO_nil, evO_val, evC_nil, evC_val, itr_val, itr_rng1, itr_rng2, itr_zip, ex_nil, ex_cons, ex_skip, ex_set, ex_own, ex_frz, ex_unp, ex_par, ex_app, ex_put, ex_bad, ex_rse, ex_rsf, ex_try, ex_paro, itr_enu, ex_ret, ex_drop, ex_ite, bnd_assoc, fit_non, fit_bl, fit_int, fit_str, fitL_nil, fitL_cons, eq_ii, eq_ss, eq_bb, List.any_cons, List.any_nil, Bool.or_false, Bool.and_self, Bool.and_true, Bool.true_and, slot0, slotS, ofO_some, some_bnd, pur_bnd, non_bnd, noE_pur, asBl_bl, bnd_ite, if_bl, if_true, if_false, Bool.false_eq_true, Bool.not_true, Bool.not_false, reduceIte, pyAt0, pyAt1, pyAt2, pyAt3, List.getElem?_cons_zero, List.getElem?_cons_succ, u_isStr_non, u_isStr_bl, u_isStr_int, u_isStr_str, u_isStr_tup, u_isStr_lst, u_isStr_own, u_isTup_non, u_isTup_bl, u_isTup_int, u_isTup_str, u_isTup_tup, u_isTup_lst, u_isTup_own, u_isInt_non, u_isInt_bl, u_isInt_int, u_isInt_str, u_isInt_tup, u_isInt_lst, u_isInt_own, u_isBl_non, u_isBl_bl, u_isBl_int, u_isBl_str, u_isBl_tup, u_isBl_lst, u_isBl_own, u_isLst_non, u_isLst_bl, u_isLst_int, u_isLst_str, u_isLst_tup, u_isLst_lst, u_isLst_own, ok_non, ok_bl, ok_int, ok_str, ok_tup, ok_lst, ok_own, ok_ref, u_len_str, u_len_tup, u_len_lst, u_len_own, u_int_int, u_neg_int, u_tuple_tup, u_list_tup, u_tuple_lst, u_list_lst, u_tuple_own, u_list_own, u_rev_tup, u_rev_lst, b_add_int, b_sub_int, b_add_tup, b_add_str, b_add_lst, b_mul_int, b_mod_int, b_fdiv_int, b_eq, b_ne, b_lt_int, b_lt_str, b_le_int, b_le_str, b_gt_int, b_gt_str, b_ge_int, b_ge_str, b_in_tup, b_in_lst, b_nin_tup, b_in_str, b_nin_str, b_is_bl, b_isn_bl, b_ix_tup, b_ix_lst, b_ix_str, eqO_int, eqO_str, eqO_bl, it_tup, it_lst, it_str, intOf_int, zip_tup, zip_lst, rng1_int, rng2_int, cut_tup, cut_lst, set0, setS, bindT1, bindT2, ownK_t, ownK_f, cut_own, b_in_own, b_nin_own, b_nin_lst, b_ix_own, bindP2, ok_pr, sq_lst, sq_own, sq_tup, idx_t, idx_l, idx_o, lam_pur, lam_err, try_pur, try_err, hdR_cons, raise_bnd, enu_tup, sets2, wipe1, wipe2, app_own, frz_own, lstK_lst, isStr_str, enu_lst, map_s, map_n, ofO_n]
        exact ⟨_, rfl, _, _, _, _, _, rfl⟩
      · rintro v hv acc _ hN ⟨o5, o6, o7, rfl⟩
        have q13 := r13s (k + 4) hsd
        have q1 := r15s (k + 3) o.g hsd (fi_at o.g w hf) hv
        have m1 := st_mem o.g (fi_at o.g w hf) hv
        have q2 := r15s (k + 3) o.g oth_sd (fi_at o.g (oth w) hf) m1
        have m2 := st_mem o.g (fi_at o.g (oth w) hf) m1
        have q3 := r15s (k + 3) o.g hsd (fi_at o.g w hf) m2
        have okf : asOk (dField f) = pur (dField f) := rfl
        simp only [q13, q1, q2, q3, a6, ok_setup, okf, eqO_str, ev_var, ev_lit, ev_con, ev_tup, ev_lst, ev_un, ev_bi, ev_ch, ev_not, ev_and, ev_or, ev_ite, ev_cut, ev_call, ev_cel, ev_at0, ev_meth, ev_dct, ev_get2, ev_idx, ev_lam, evL_nil, evL_cons, evO_nil, evO_val, evC_nil, evC_val, itr_val, itr_rng1, itr_rng2, itr_zip, ex_nil, ex_cons, ex_skip, ex_set, ex_own, ex_frz, ex_unp, ex_par, ex_app, ex_put, ex_bad, ex_rse, ex_rsf, ex_try, ex_paro, itr_enu, ex_ret, ex_drop, ex_ite, bnd_assoc, fit_non, fit_bl, fit_int, fit_str, fitL_nil, fitL_cons, eq_ii, eq_ss, eq_bb, List.any_cons, List.any_nil, Bool.or_false, Bool.and_self, Bool.and_true, Bool.true_and, slot0, slotS, ofO_some, some_bnd, pur_bnd, non_bnd, noE_pur, asBl_bl, bnd_ite, if_bl, if_true, if_false, Bool.false_eq_true, Bool.not_true, Bool.not_false, reduceIte, pyAt0, pyAt1, pyAt2, pyAt3, List.getElem?_cons_zero, List.getElem?_cons_succ, u_isStr_non, u_isStr_bl, u_isStr_int, u_isStr_str, u_isStr_tup, u_isStr_lst, u_isStr_own, u_isTup_non, u_isTup_bl, u_isTup_int, u_isTup_str, u_isTup_tup, u_isTup_lst, u_isTup_own, u_isInt_non, u_isInt_bl, u_isInt_int, u_isInt_str, u_isInt_tup, u_isInt_lst, u_isInt_own, u_isBl_non, u_isBl_bl, u_isBl_int, u_isBl_str, u_isBl_tup, u_isBl_lst, u_isBl_own, u_isLst_non, u_isLst_bl, u_isLst_int, u_isLst_str, u_isLst_tup, u_isLst_lst, u_isLst_own, ok_non, ok_bl, ok_int, ok_str, ok_tup, ok_lst, ok_own, ok_ref, u_len_str, u_len_tup, u_len_lst, u_len_own, u_int_int, u_neg_int, u_tuple_tup, u_list_tup, u_tuple_lst, u_list_lst, u_tuple_own, u_list_own, u_rev_tup, u_rev_lst, b_add_int, b_sub_int, b_add_tup, b_add_str, b_add_lst, b_mul_int, b_mod_int, b_fdiv_int, b_eq, b_ne, b_lt_int, b_lt_str, b_le_int, b_le_str, b_gt_int, b_gt_str, b_ge_int, b_ge_str, b_in_tup, b_in_lst, b_nin_tup, b_in_str, b_nin_str, b_is_bl, b_isn_bl, b_ix_tup, b_ix_lst, b_ix_str, eqO_int, eqO_str, eqO_bl, it_tup, it_lst, it_str, intOf_int, zip_tup, zip_lst, rng1_int, rng2_int, cut_tup, cut_lst, set0, setS, bindT1, bindT2, ownK_t, ownK_f, cut_own, b_in_own, b_nin_own, b_nin_lst, b_ix_own, bindP2, ok_pr, sq_lst, sq_own, sq_tup, idx_t, idx_l, idx_o, lam_pur, lam_err, try_pur, try_err, hdR_cons, raise_bnd, enu_tup, sets2, wipe1, wipe2, app_own, frz_own, lstK_lst, isStr_str, enu_lst, map_s, map_n, ofO_n]
        by_cases hb : badv u i f w v = true
        · have hb' : (stW f.2 (rowAt u w i) (stW f.2 (rowAt u (oth w) i) (stW f.2 (rowAt u w i) v)) == stW f.2 (rowAt u w i) v) = false := by simpa [badv] using hb
          have hlim : acc.length < lim := by unfold lim; omega
          simp only [hb, hb', hlim, ev_var, ev_lit, ev_con, ev_tup, ev_lst, ev_un, ev_bi, ev_ch, ev_not, ev_and, ev_or, ev_ite, ev_cut, ev_call, ev_cel, ev_at0, ev_meth, ev_dct, ev_get2, ev_idx, ev_lam, evL_nil, evL_cons, evO_nil, evO_val, evC_nil, evC_val, itr_val, itr_rng1, itr_rng2, itr_zip, ex_nil, ex_cons, ex_skip, ex_set, ex_own, ex_frz, ex_unp, ex_par, ex_app, ex_put, ex_bad, ex_rse, ex_rsf, ex_try, ex_paro, itr_enu, ex_ret, ex_drop, ex_ite, bnd_assoc, fit_non, fit_bl, fit_int, fit_str, fitL_nil, fitL_cons, eq_ii, eq_ss, eq_bb, List.any_cons, List.any_nil, Bool.or_false, Bool.and_self, Bool.and_true, Bool.true_and, slot0, slotS, ofO_some, some_bnd, pur_bnd, non_bnd, noE_pur, asBl_bl, bnd_ite, if_bl, if_true, if_false, Bool.false_eq_true, Bool.not_true, Bool.not_false, reduceIte, pyAt0, pyAt1, pyAt2, pyAt3, List.getElem?_cons_zero, List.getElem?_cons_succ, u_isStr_non, u_isStr_bl, u_isStr_int, u_isStr_str, u_isStr_tup, u_isStr_lst, u_isStr_own, u_isTup_non, u_isTup_bl, u_isTup_int, u_isTup_str, u_isTup_tup, u_isTup_lst, u_isTup_own, u_isInt_non, u_isInt_bl, u_isInt_int, u_isInt_str, u_isInt_tup, u_isInt_lst, u_isInt_own, u_isBl_non, u_isBl_bl, u_isBl_int, u_isBl_str, u_isBl_tup, u_isBl_lst, u_isBl_own, u_isLst_non, u_isLst_bl, u_isLst_int, u_isLst_str, u_isLst_tup, u_isLst_lst, u_isLst_own, ok_non, ok_bl, ok_int, ok_str, ok_tup, ok_lst, ok_own, ok_ref, u_len_str, u_len_tup, u_len_lst, u_len_own, u_int_int, u_neg_int, u_tuple_tup, u_list_tup, u_tuple_lst, u_list_lst, u_tuple_own, u_list_own, u_rev_tup, u_rev_lst, b_add_int, b_sub_int, b_add_tup, b_add_str, b_add_lst, b_mul_int, b_mod_int, b_fdiv_int, b_eq, b_ne, b_lt_int, b_lt_str, b_le_int, b_le_str, b_gt_int, b_gt_str, b_ge_int, b_ge_str, b_in_tup, b_in_lst, b_nin_tup, b_in_str, b_nin_str, b_is_bl, b_isn_bl, b_ix_tup, b_ix_lst, b_ix_str, eqO_int, eqO_str, eqO_bl, it_tup, it_lst, it_str, intOf_int, zip_tup, zip_lst, rng1_int, rng2_int, cut_tup, cut_lst, set0, setS, bindT1, bindT2, ownK_t, ownK_f, cut_own, b_in_own, b_nin_own, b_nin_lst, b_ix_own, bindP2, ok_pr, sq_lst, sq_own, sq_tup, idx_t, idx_l, idx_o, lam_pur, lam_err, try_pur, try_err, hdR_cons, raise_bnd, enu_tup, sets2, wipe1, wipe2, app_own, frz_own, lstK_lst, isStr_str, enu_lst, map_s, map_n, ofO_n]
          exact ⟨_, rfl, _, _, _, rfl⟩
        · have hb' : (stW f.2 (rowAt u w i) (stW f.2 (rowAt u (oth w) i) (stW f.2 (rowAt u w i) v)) == stW f.2 (rowAt u w i) v) = true := by simpa [badv] using hb
          simp only [hb, hb', List.append_nil, ev_var, ev_lit, ev_con, ev_tup, ev_lst, ev_un, ev_bi, ev_ch, ev_not, ev_and, ev_or, ev_ite, ev_cut, ev_call, ev_cel, ev_at0, ev_meth, ev_dct, ev_get2, ev_idx, ev_lam, evL_nil, evL_cons, evO_nil, evO_val, evC_nil, evC_val, itr_val, itr_rng1, itr_rng2, itr_zip, ex_nil, ex_cons, ex_skip, ex_set, ex_own, ex_frz, ex_unp, ex_par, ex_app, ex_put, ex_bad, ex_rse, ex_rsf, ex_try, ex_paro, itr_enu, ex_ret, ex_drop, ex_ite, bnd_assoc, fit_non, fit_bl, fit_int, fit_str, fitL_nil, fitL_cons, eq_ii, eq_ss, eq_bb, List.any_cons, List.any_nil, Bool.or_false, Bool.and_self, Bool.and_true, Bool.true_and, slot0, slotS, ofO_some, some_bnd, pur_bnd, non_bnd, noE_pur, asBl_bl, bnd_ite, if_bl, if_true, if_false, Bool.false_eq_true, Bool.not_true, Bool.not_false, reduceIte, pyAt0, pyAt1, pyAt2, pyAt3, List.getElem?_cons_zero, List.getElem?_cons_succ, u_isStr_non, u_isStr_bl, u_isStr_int, u_isStr_str, u_isStr_tup, u_isStr_lst, u_isStr_own, u_isTup_non, u_isTup_bl, u_isTup_int, u_isTup_str, u_isTup_tup, u_isTup_lst, u_isTup_own, u_isInt_non, u_isInt_bl, u_isInt_int, u_isInt_str, u_isInt_tup, u_isInt_lst, u_isInt_own, u_isBl_non, u_isBl_bl, u_isBl_int, u_isBl_str, u_isBl_tup, u_isBl_lst, u_isBl_own, u_isLst_non, u_isLst_bl, u_isLst_int, u_isLst_str, u_isLst_tup, u_isLst_lst, u_isLst_own, ok_non, ok_bl, ok_int, ok_str, ok_tup, ok_lst, ok_own, ok_ref, u_len_str, u_len_tup, u_len_lst, u_len_own, u_int_int, u_neg_int, u_tuple_tup, u_list_tup, u_tuple_lst, u_list_lst, u_tuple_own, u_list_own, u_rev_tup, u_rev_lst, b_add_int, b_sub_int, b_add_tup, b_add_str, b_add_lst, b_mul_int, b_mod_int, b_fdiv_int, b_eq, b_ne, b_lt_int, b_lt_str, b_le_int, b_le_str, b_gt_int, b_gt_str, b_ge_int, b_ge_str, b_in_tup, b_in_lst, b_nin_tup, b_in_str, b_nin_str, b_is_bl, b_isn_bl, b_ix_tup, b_ix_lst, b_ix_str, eqO_int, eqO_str, eqO_bl, it_tup, it_lst, it_str, intOf_int, zip_tup, zip_lst, rng1_int, rng2_int, cut_tup, cut_lst, set0, setS, bindT1, bindT2, ownK_t, ownK_f, cut_own, b_in_own, b_nin_own, b_nin_lst, b_ix_own, bindP2, ok_pr, sq_lst, sq_own, sq_tup, idx_t, idx_l, idx_o, lam_pur, lam_err, try_pur, try_err, hdR_cons, raise_bnd, enu_tup, sets2, wipe1, wipe2, app_own, frz_own, lstK_lst, isStr_str, enu_lst, map_s, map_n, ofO_n]
          exact ⟨_, rfl, _, _, _, rfl⟩
end K04

namespace K04
open Ev
theorem r18s (k : Nat) {u : Su} (o : OkU u) : F (k + 7) 18 [dSetup u] = pur (.bl (D.eq (.lst (unsU u)) (.lst []))) := by
  rw [F, runF_at (fd := f18) rfl rfl]
  show bnd (exS _ _ b18 [some (dSetup u)]) _ = _
  unfold b18
  have q := r17s k o
  have hl : D.fitL 5 (unsU u) = true := fitL_iff.mpr fun d hd => by
    unfold unsU unsW unsF at hd
    obtain ⟨w, _, hd⟩ := List.mem_flatMap.mp hd
    obtain ⟨p, _, hd⟩ := List.mem_flatMap.mp hd
    obtain ⟨v, _, hd⟩ := List.mem_flatMap.mp hd
    split at hd
    · rw [List.mem_singleton.mp hd]; rfl
    · cases hd
  have hf : (D.lst (unsU u)).fit 6 = true := by unfold D.fit; exact hl
  have hn : (D.lst []).fit 6 = true := rfl
  have e : eqO (.lst (unsU u)) (.lst []) = some (D.eq (.lst (unsU u)) (.lst [])) := eqO_fit (fit_mono (by decide) hf) (fit_mono (by decide) hn)
  simp only [q, ok_setup, e, ev_var, ev_lit, ev_con, ev_tup, ev_lst, ev_un, ev_bi, ev_ch, ev_not, ev_and, ev_or, ev_ite, ev_cut, ev_call, ev_cel, ev_at0, ev_meth, ev_dct, ev_get2, ev_idx, ev_lam, evL_nil, evL_cons, evO_nil, evO_val, evC_nil, evC_val, itr_val, itr_rng1, itr_rng2, itr_zip, ex_nil, ex_cons, ex_skip, ex_set, ex_own, ex_frz, ex_unp, ex_par, ex_app, ex_put, ex_bad, ex_rse, ex_rsf, ex_try, ex_paro, itr_enu, ex_ret, ex_drop, ex_ite, bnd_assoc, fit_non, fit_bl, fit_int, fit_str, fitL_nil, fitL_cons, eq_ii, eq_ss, eq_bb, List.any_cons, List.any_nil, Bool.or_false, Bool.and_self, Bool.and_true, Bool.true_and, slot0, slotS, ofO_some, some_bnd, pur_bnd, non_bnd, noE_pur, asBl_bl, bnd_ite, if_bl, if_true, if_false, Bool.false_eq_true, Bool.not_true, Bool.not_false, reduceIte, pyAt0, pyAt1, pyAt2, pyAt3, List.getElem?_cons_zero, List.getElem?_cons_succ, u_isStr_non, u_isStr_bl, u_isStr_int, u_isStr_str, u_isStr_tup, u_isStr_lst, u_isStr_own, u_isTup_non, u_isTup_bl, u_isTup_int, u_isTup_str, u_isTup_tup, u_isTup_lst, u_isTup_own, u_isInt_non, u_isInt_bl, u_isInt_int, u_isInt_str, u_isInt_tup, u_isInt_lst, u_isInt_own, u_isBl_non, u_isBl_bl, u_isBl_int, u_isBl_str, u_isBl_tup, u_isBl_lst, u_isBl_own, u_isLst_non, u_isLst_bl, u_isLst_int, u_isLst_str, u_isLst_tup, u_isLst_lst, u_isLst_own, ok_non, ok_bl, ok_int, ok_str, ok_tup, ok_lst, ok_own, ok_ref, u_len_str, u_len_tup, u_len_lst, u_len_own, u_int_int, u_neg_int, u_tuple_tup, u_list_tup, u_tuple_lst, u_list_lst, u_tuple_own, u_list_own, u_rev_tup, u_rev_lst, b_add_int, b_sub_int, b_add_tup, b_add_str, b_add_lst, b_mul_int, b_mod_int, b_fdiv_int, b_eq, b_ne, b_lt_int, b_lt_str, b_le_int, b_le_str, b_gt_int, b_gt_str, b_ge_int, b_ge_str, b_in_tup, b_in_lst, b_nin_tup, b_in_str, b_nin_str, b_is_bl, b_isn_bl, b_ix_tup, b_ix_lst, b_ix_str, eqO_int, eqO_str, eqO_bl, it_tup, it_lst, it_str, intOf_int, zip_tup, zip_lst, rng1_int, rng2_int, cut_tup, cut_lst, set0, setS, bindT1, bindT2, ownK_t, ownK_f, cut_own, b_in_own, b_nin_own, b_nin_lst, b_ix_own, bindP2, ok_pr, sq_lst, sq_own, sq_tup, idx_t, idx_l, idx_o, lam_pur, lam_err, try_pur, try_err, hdR_cons, raise_bnd, enu_tup, sets2, wipe1, wipe2, app_own, frz_own, lstK_lst, isStr_str, enu_lst, map_s, map_n, ofO_n]
theorem isWord_odd {ws : List Wo} {v : D} (h : ∀ w ∈ ws, lab w) (hv : isLabel v = false) : isWord (ws.map D.str) v = false := by
  cases v with
  | str s =>
    rw [isWord_str]
    refine Bool.eq_false_iff.mpr fun z => ?_
    have := h s (by simpa using z)
    unfold lab at this
    rw [hv] at this
    cases this
  | _ => rfl
theorem r16e1 (k : Nat) {m n : Nat} (hn : n ≤ 60) {u : Su} (o : OkU u) {v a b : D} (hv : sm m n v = true) (hb : isWord sides v = false) : F (k + 6) 16 [dSetup u, v, a, b] = raise ⟨2, none⟩ := by
  rw [F, runF_at (fd := f16) rfl rfl]
  show bnd (exS _ _ b16 [some (dSetup u), some v, some a, some b, none, none, none, none, none, none]) _ = _
  unfold b16
  have q9 := r9s k o
  have q10 := r10s (k + 3) hn hv
  rw [hb] at q10
  simp only [q9, q10, ok_setup, sm_ok hv, ev_var, ev_lit, ev_con, ev_tup, ev_lst, ev_un, ev_bi, ev_ch, ev_not, ev_and, ev_or, ev_ite, ev_cut, ev_call, ev_cel, ev_at0, ev_meth, ev_dct, ev_get2, ev_idx, ev_lam, evL_nil, evL_cons, evO_nil, evO_val, evC_nil, evC_val, itr_val, itr_rng1, itr_rng2, itr_zip, ex_nil, ex_cons, ex_skip, ex_set, ex_own, ex_frz, ex_unp, ex_par, ex_app, ex_put, ex_bad, ex_rse, ex_rsf, ex_try, ex_paro, itr_enu, ex_ret, ex_drop, ex_ite, bnd_assoc, fit_non, fit_bl, fit_int, fit_str, fitL_nil, fitL_cons, eq_ii, eq_ss, eq_bb, List.any_cons, List.any_nil, Bool.or_false, Bool.and_self, Bool.and_true, Bool.true_and, slot0, slotS, ofO_some, some_bnd, pur_bnd, non_bnd, noE_pur, asBl_bl, bnd_ite, if_bl, if_true, if_false, Bool.false_eq_true, Bool.not_true, Bool.not_false, reduceIte, pyAt0, pyAt1, pyAt2, pyAt3, List.getElem?_cons_zero, List.getElem?_cons_succ, u_isStr_non, u_isStr_bl, u_isStr_int, u_isStr_str, u_isStr_tup, u_isStr_lst, u_isStr_own, u_isTup_non, u_isTup_bl, u_isTup_int, u_isTup_str, u_isTup_tup, u_isTup_lst, u_isTup_own, u_isInt_non, u_isInt_bl, u_isInt_int, u_isInt_str, u_isInt_tup, u_isInt_lst, u_isInt_own, u_isBl_non, u_isBl_bl, u_isBl_int, u_isBl_str, u_isBl_tup, u_isBl_lst, u_isBl_own, u_isLst_non, u_isLst_bl, u_isLst_int, u_isLst_str, u_isLst_tup, u_isLst_lst, u_isLst_own, ok_non, ok_bl, ok_int, ok_str, ok_tup, ok_lst, ok_own, ok_ref, u_len_str, u_len_tup, u_len_lst, u_len_own, u_int_int, u_neg_int, u_tuple_tup, u_list_tup, u_tuple_lst, u_list_lst, u_tuple_own, u_list_own, u_rev_tup, u_rev_lst, b_add_int, b_sub_int, b_add_tup, b_add_str, b_add_lst, b_mul_int, b_mod_int, b_fdiv_int, b_eq, b_ne, b_lt_int, b_lt_str, b_le_int, b_le_str, b_gt_int, b_gt_str, b_ge_int, b_ge_str, b_in_tup, b_in_lst, b_nin_tup, b_in_str, b_nin_str, b_is_bl, b_isn_bl, b_ix_tup, b_ix_lst, b_ix_str, eqO_int, eqO_str, eqO_bl, it_tup, it_lst, it_str, intOf_int, zip_tup, zip_lst, rng1_int, rng2_int, cut_tup, cut_lst, set0, setS, bindT1, bindT2, ownK_t, ownK_f, cut_own, b_in_own, b_nin_own, b_nin_lst, b_ix_own, bindP2, ok_pr, sq_lst, sq_own, sq_tup, idx_t, idx_l, idx_o, lam_pur, lam_err, try_pur, try_err, hdR_cons, raise_bnd, enu_tup, sets2, wipe1, wipe2, app_own, frz_own, lstK_lst, isStr_str, enu_lst, map_s, map_n, ofO_n]
theorem r16e2 (k : Nat) {m n : Nat} (hn : n ≤ 60) {u : Su} (o : OkU u) {w : Wo} (h : isSd w) {v b : D} (hv : sm m n v = true) (hb : isWord ((u.fs.map (·.1)).map D.str) v = false) : F (k + 6) 16 [dSetup u, .str w, v, b] = raise ⟨3, none⟩ := by
  rw [F, runF_at (fd := f16) rfl rfl]
  show bnd (exS _ _ b16 [some (dSetup u), some (.str w), some v, some b, none, none, none, none, none, none]) _ = _
  unfold b16
  have q9 := r9s k o
  have q10 := r10s (k + 3) (m := 4) (n := 0) (by omega) (v := .str w) rfl
  rw [side_word h, if_pos rfl] at q10
  have q11 := r11s (k + 3) hn hv hb
  simp only [q9, q10, q11, ok_setup, sm_ok hv, ev_var, ev_lit, ev_con, ev_tup, ev_lst, ev_un, ev_bi, ev_ch, ev_not, ev_and, ev_or, ev_ite, ev_cut, ev_call, ev_cel, ev_at0, ev_meth, ev_dct, ev_get2, ev_idx, ev_lam, evL_nil, evL_cons, evO_nil, evO_val, evC_nil, evC_val, itr_val, itr_rng1, itr_rng2, itr_zip, ex_nil, ex_cons, ex_skip, ex_set, ex_own, ex_frz, ex_unp, ex_par, ex_app, ex_put, ex_bad, ex_rse, ex_rsf, ex_try, ex_paro, itr_enu, ex_ret, ex_drop, ex_ite, bnd_assoc, fit_non, fit_bl, fit_int, fit_str, fitL_nil, fitL_cons, eq_ii, eq_ss, eq_bb, List.any_cons, List.any_nil, Bool.or_false, Bool.and_self, Bool.and_true, Bool.true_and, slot0, slotS, ofO_some, some_bnd, pur_bnd, non_bnd, noE_pur, asBl_bl, bnd_ite, if_bl, if_true, if_false, Bool.false_eq_true, Bool.not_true, Bool.not_false, reduceIte, pyAt0, pyAt1, pyAt2, pyAt3, List.getElem?_cons_zero, List.getElem?_cons_succ, u_isStr_non, u_isStr_bl, u_isStr_int, u_isStr_str, u_isStr_tup, u_isStr_lst, u_isStr_own, u_isTup_non, u_isTup_bl, u_isTup_int, u_isTup_str, u_isTup_tup, u_isTup_lst, u_isTup_own, u_isInt_non, u_isInt_bl, u_isInt_int, u_isInt_str, u_isInt_tup, u_isInt_lst, u_isInt_own, u_isBl_non, u_isBl_bl, u_isBl_int, u_isBl_str, u_isBl_tup, u_isBl_lst, u_isBl_own, u_isLst_non, u_isLst_bl, u_isLst_int, u_isLst_str, u_isLst_tup, u_isLst_lst, u_isLst_own, ok_non, ok_bl, ok_int, ok_str, ok_tup, ok_lst, ok_own, ok_ref, u_len_str, u_len_tup, u_len_lst, u_len_own, u_int_int, u_neg_int, u_tuple_tup, u_list_tup, u_tuple_lst, u_list_lst, u_tuple_own, u_list_own, u_rev_tup, u_rev_lst, b_add_int, b_sub_int, b_add_tup, b_add_str, b_add_lst, b_mul_int, b_mod_int, b_fdiv_int, b_eq, b_ne, b_lt_int, b_lt_str, b_le_int, b_le_str, b_gt_int, b_gt_str, b_ge_int, b_ge_str, b_in_tup, b_in_lst, b_nin_tup, b_in_str, b_nin_str, b_is_bl, b_isn_bl, b_ix_tup, b_ix_lst, b_ix_str, eqO_int, eqO_str, eqO_bl, it_tup, it_lst, it_str, intOf_int, zip_tup, zip_lst, rng1_int, rng2_int, cut_tup, cut_lst, set0, setS, bindT1, bindT2, ownK_t, ownK_f, cut_own, b_in_own, b_nin_own, b_nin_lst, b_ix_own, bindP2, ok_pr, sq_lst, sq_own, sq_tup, idx_t, idx_l, idx_o, lam_pur, lam_err, try_pur, try_err, hdR_cons, raise_bnd, enu_tup, sets2, wipe1, wipe2, app_own, frz_own, lstK_lst, isStr_str, enu_lst, map_s, map_n, ofO_n]
theorem r16e3 (k : Nat) {m n : Nat} (hn : n ≤ 60) {u : Su} (o : OkU u) {w : Wo} (h : isSd w) {i : Nat} {f : Wo × List Wo} (hf : u.fs[i]? = some f) {v : D} (hv : sm m n v = true) (hb : isWord (f.2.map D.str) v = false) : F (k + 6) 16 [dSetup u, .str w, .str f.1, v] = raise ⟨4, none⟩ := by
  rw [F, runF_at (fd := f16) rfl rfl]
  show bnd (exS _ _ b16 [some (dSetup u), some (.str w), some (.str f.1), some v, none, none, none, none, none, none]) _ = _
  unfold b16
  have q9 := r9s k o
  have q10 := r10s (k + 3) (m := 4) (n := 0) (by omega) (v := .str w) rfl
  rw [side_word h, if_pos rfl] at q10
  have q11 := r11g (k + 3) o.g hf
  have q12 := r12s (k + 3) hn hf hv
  rw [hb] at q12
  simp only [q9, q10, q11, q12, ok_setup, sm_ok hv, ev_var, ev_lit, ev_con, ev_tup, ev_lst, ev_un, ev_bi, ev_ch, ev_not, ev_and, ev_or, ev_ite, ev_cut, ev_call, ev_cel, ev_at0, ev_meth, ev_dct, ev_get2, ev_idx, ev_lam, evL_nil, evL_cons, evO_nil, evO_val, evC_nil, evC_val, itr_val, itr_rng1, itr_rng2, itr_zip, ex_nil, ex_cons, ex_skip, ex_set, ex_own, ex_frz, ex_unp, ex_par, ex_app, ex_put, ex_bad, ex_rse, ex_rsf, ex_try, ex_paro, itr_enu, ex_ret, ex_drop, ex_ite, bnd_assoc, fit_non, fit_bl, fit_int, fit_str, fitL_nil, fitL_cons, eq_ii, eq_ss, eq_bb, List.any_cons, List.any_nil, Bool.or_false, Bool.and_self, Bool.and_true, Bool.true_and, slot0, slotS, ofO_some, some_bnd, pur_bnd, non_bnd, noE_pur, asBl_bl, bnd_ite, if_bl, if_true, if_false, Bool.false_eq_true, Bool.not_true, Bool.not_false, reduceIte, pyAt0, pyAt1, pyAt2, pyAt3, List.getElem?_cons_zero, List.getElem?_cons_succ, u_isStr_non, u_isStr_bl, u_isStr_int, u_isStr_str, u_isStr_tup, u_isStr_lst, u_isStr_own, u_isTup_non, u_isTup_bl, u_isTup_int, u_isTup_str, u_isTup_tup, u_isTup_lst, u_isTup_own, u_isInt_non, u_isInt_bl, u_isInt_int, u_isInt_str, u_isInt_tup, u_isInt_lst, u_isInt_own, u_isBl_non, u_isBl_bl, u_isBl_int, u_isBl_str, u_isBl_tup, u_isBl_lst, u_isBl_own, u_isLst_non, u_isLst_bl, u_isLst_int, u_isLst_str, u_isLst_tup, u_isLst_lst, u_isLst_own, ok_non, ok_bl, ok_int, ok_str, ok_tup, ok_lst, ok_own, ok_ref, u_len_str, u_len_tup, u_len_lst, u_len_own, u_int_int, u_neg_int, u_tuple_tup, u_list_tup, u_tuple_lst, u_list_lst, u_tuple_own, u_list_own, u_rev_tup, u_rev_lst, b_add_int, b_sub_int, b_add_tup, b_add_str, b_add_lst, b_mul_int, b_mod_int, b_fdiv_int, b_eq, b_ne, b_lt_int, b_lt_str, b_le_int, b_le_str, b_gt_int, b_gt_str, b_ge_int, b_ge_str, b_in_tup, b_in_lst, b_nin_tup, b_in_str, b_nin_str, b_is_bl, b_isn_bl, b_ix_tup, b_ix_lst, b_ix_str, eqO_int, eqO_str, eqO_bl, it_tup, it_lst, it_str, intOf_int, zip_tup, zip_lst, rng1_int, rng2_int, cut_tup, cut_lst, set0, setS, bindT1, bindT2, ownK_t, ownK_f, cut_own, b_in_own, b_nin_own, b_nin_lst, b_ix_own, bindP2, ok_pr, sq_lst, sq_own, sq_tup, idx_t, idx_l, idx_o, lam_pur, lam_err, try_pur, try_err, hdR_cons, raise_bnd, enu_tup, sets2, wipe1, wipe2, app_own, frz_own, lstK_lst, isStr_str, enu_lst, map_s, map_n, ofO_n]
theorem eqL_strs : ∀ ws : List Wo, D.eqL (ws.map .str) (ws.map .str) = true
  | [] => by unfold D.eqL; rfl
  | w :: ws => by
    show D.eqL (.str w :: ws.map .str) (.str w :: ws.map .str) = true
    unfold D.eqL
    rw [eq_ss, eqL_strs ws, beq_self_eq_true]
    rfl
theorem eq_echD {m : List Pr} {p : Pr} : eqO (echD m p) (echD m p) = some true := by
  have key : ∀ a b : List Wo, eqO (.tup [.lst (a.map .str), .lst (b.map .str)]) (.tup [.lst (a.map .str), .lst (b.map .str)]) = some true := by
    intro a b
    have f : ∀ l : List Wo, (D.lst (l.map .str)).fit 5 = true := fun l => fit_of fun _ _ => by unfold D.fit; rfl
    have hf : (D.tup [.lst (a.map .str), .lst (b.map .str)]).fit 6 = true := fit_tup fun d hd => by
      rcases List.mem_cons.mp hd with rfl | hd
      · exact f a
      · rw [List.mem_singleton.mp hd]; exact f b
    rw [eqO_fit (fit_mono (by decide) hf) (fit_mono (by decide) hf)]
    congr 1
    unfold D.eq D.eqL D.eqL D.eqL D.eq
    rw [eqL_strs, eqL_strs]
    rfl
  have e : ∀ q : List Pr, (q.map fun q => D.str q.2) = (q.map (·.2)).map .str := fun q => by rw [List.map_map]; rfl
  unfold echD
  rw [e, e]
  exact key _ _
theorem eq_ech {u : Su} (g : Gd u) {w : Wo} (h : isSd w) {i : Nat} {f : Wo × List Wo} (hf : u.fs[i]? = some f) {v : Wo} (hv : v ∈ f.2) : eqO (ech u i f w v) (ech u i f w v) = some true := by
  have p0 : inI f (w, stW f.2 (rowAt u w i) v) := ⟨h, st_mem g (fi_at g w hf) hv⟩
  obtain ⟨m, p', e, _, _⟩ := walk_at g hf p0
  unfold ech
  rw [e]
  exact eq_echD
theorem ok_ech {u : Su} {w : Wo} {i : Nat} {f : Wo × List Wo} {v : Wo} : asOk (ech u i f w v) = pur (ech u i f w v) := by
  unfold ech
  cases walk (nx u i f) 20 [] (w, stW f.2 (rowAt u w i) v) <;> rfl
/-- a loop without effects, met on the way -/
theorem ex_forp {Φ : Fun} {C : Nat → Option D} {ρ : Env} {st : Sx} {K : Fl → M Fl} {R P : Env → Prop} (h : ∃ ρ1, exS Φ C st ρ = pur (.nx ρ1) ∧ P ρ1) (hk : ∀ ρ1, P ρ1 → ∃ ρ', K (.nx ρ1) = pur (.nx ρ') ∧ R ρ') : ∃ ρ', bnd (exS Φ C st ρ) K = pur (.nx ρ') ∧ R ρ' := by
  obtain ⟨ρ1, e, p⟩ := h
  rw [e, pur_bnd]
  exact hk ρ1 p
end K04

namespace K04
open Ev
theorem wp_cel {l : List D} {s : Store} {Q : D → Store → Prop} : wp (celK l) Q s ↔ Q (.ref s.length) (s ++ [.lst l]) := Iff.rfl
theorem cel_lst {l : List D} : celOf (.lst l) = celK l := id rfl
theorem b_pow {i j : Int} : bop .pow (.int i) (.int j) = if 0 ≤ j ∧ j ≤ 1000000 ∧ i.natAbs < 2 ^ 64 then some (.int (i ^ j.toNat)) else none := id rfl
theorem pow18 : bop .pow (.int 10) (.int 18) = some (.int 1000000000000000000) := by
  rw [b_pow, if_pos (by decide)]
  rfl
theorem hand (k : Nat) {i : Int} {s : Store} {Q : D → Store → Prop} (hq : ∀ c s', Hd c s' → Q (.ref c) s') : wp (F (k + 1) 19 [.int i, .int 21]) Q s := by
  rw [F, runF_at (fd := f19) rfl rfl]
  show wp (bnd (exS _ _ b19 [some (.int i), some (.int 21)]) _) Q s
  unfold b19
  have hm : ((-big < (7 : Int) ∧ (7 : Int) < big) ∨ (-big < (21 : Int) ∧ (21 : Int) < big)) = True := eq_true (.inl (by decide))
  have hk : (0 : Int) < 1000000007 := by omega
  have key : ∀ a : Int, 0 ≤ a → wp (celK [.int a, .int ((i + 7 * 21) % 1000000007 + 1)]) Q s := by
    intro a ha
    rw [wp_cel]
    refine hq _ _ ⟨a, (i + 7 * 21) % 1000000007 + 1, by simp, ha, ?_, ?_⟩
    · have := Int.emod_nonneg (i + 7 * 21) (show (1000000007 : Int) ≠ 0 by omega); omega
    · have := Int.emod_lt_of_pos (i + 7 * 21) (show (0 : Int) < 1000000007 by omega); omega
  by_cases hp : (1000000000000000000 : Int) ≤ i
  · simp only [ev_var, ev_lit, ev_con, ev_tup, ev_lst, ev_un, ev_bi, ev_ch, ev_not, ev_and, ev_or, ev_ite, ev_cut, ev_call, ev_cel, ev_at0, ev_meth, ev_dct, ev_get2, ev_idx, ev_lam, evL_nil, evL_cons, evO_nil, evO_val, evC_nil, evC_val, itr_val, itr_rng1, itr_rng2, itr_zip, ex_nil, ex_cons, ex_skip, ex_set, ex_own, ex_frz, ex_unp, ex_par, ex_app, ex_put, ex_bad, ex_rse, ex_rsf, ex_try, ex_paro, itr_enu, ex_ret, ex_drop, ex_ite, bnd_assoc, fit_non, fit_bl, fit_int, fit_str, fitL_nil, fitL_cons, eq_ii, eq_ss, eq_bb, List.any_cons, List.any_nil, Bool.or_false, Bool.and_self, Bool.and_true, Bool.true_and, slot0, slotS, ofO_some, some_bnd, pur_bnd, non_bnd, noE_pur, asBl_bl, bnd_ite, if_bl, if_true, if_false, Bool.false_eq_true, Bool.not_true, Bool.not_false, reduceIte, pyAt0, pyAt1, pyAt2, pyAt3, List.getElem?_cons_zero, List.getElem?_cons_succ, u_isStr_non, u_isStr_bl, u_isStr_int, u_isStr_str, u_isStr_tup, u_isStr_lst, u_isStr_own, u_isTup_non, u_isTup_bl, u_isTup_int, u_isTup_str, u_isTup_tup, u_isTup_lst, u_isTup_own, u_isInt_non, u_isInt_bl, u_isInt_int, u_isInt_str, u_isInt_tup, u_isInt_lst, u_isInt_own, u_isBl_non, u_isBl_bl, u_isBl_int, u_isBl_str, u_isBl_tup, u_isBl_lst, u_isBl_own, u_isLst_non, u_isLst_bl, u_isLst_int, u_isLst_str, u_isLst_tup, u_isLst_lst, u_isLst_own, ok_non, ok_bl, ok_int, ok_str, ok_tup, ok_lst, ok_own, ok_ref, u_len_str, u_len_tup, u_len_lst, u_len_own, u_int_int, u_neg_int, u_tuple_tup, u_list_tup, u_tuple_lst, u_list_lst, u_tuple_own, u_list_own, u_rev_tup, u_rev_lst, b_add_int, b_sub_int, b_add_tup, b_add_str, b_add_lst, b_mul_int, b_mod_int, b_fdiv_int, b_eq, b_ne, b_lt_int, b_lt_str, b_le_int, b_le_str, b_gt_int, b_gt_str, b_ge_int, b_ge_str, b_in_tup, b_in_lst, b_nin_tup, b_in_str, b_nin_str, b_is_bl, b_isn_bl, b_ix_tup, b_ix_lst, b_ix_str, eqO_int, eqO_str, eqO_bl, it_tup, it_lst, it_str, intOf_int, zip_tup, zip_lst, rng1_int, rng2_int, cut_tup, cut_lst, set0, setS, bindT1, bindT2, ownK_t, ownK_f, cut_own, b_in_own, b_nin_own, b_nin_lst, b_ix_own, bindP2, ok_pr, sq_lst, sq_own, sq_tup, idx_t, idx_l, idx_o, lam_pur, lam_err, try_pur, try_err, hdR_cons, raise_bnd, enu_tup, sets2, wipe1, wipe2, app_own, frz_own, lstK_lst, isStr_str, enu_lst, map_s, map_n, ofO_n, pow18, hp, decide_true, hm, hk, cel_lst]
    rw [wp_bnd]
    exact key i (by omega)
  · simp only [ev_var, ev_lit, ev_con, ev_tup, ev_lst, ev_un, ev_bi, ev_ch, ev_not, ev_and, ev_or, ev_ite, ev_cut, ev_call, ev_cel, ev_at0, ev_meth, ev_dct, ev_get2, ev_idx, ev_lam, evL_nil, evL_cons, evO_nil, evO_val, evC_nil, evC_val, itr_val, itr_rng1, itr_rng2, itr_zip, ex_nil, ex_cons, ex_skip, ex_set, ex_own, ex_frz, ex_unp, ex_par, ex_app, ex_put, ex_bad, ex_rse, ex_rsf, ex_try, ex_paro, itr_enu, ex_ret, ex_drop, ex_ite, bnd_assoc, fit_non, fit_bl, fit_int, fit_str, fitL_nil, fitL_cons, eq_ii, eq_ss, eq_bb, List.any_cons, List.any_nil, Bool.or_false, Bool.and_self, Bool.and_true, Bool.true_and, slot0, slotS, ofO_some, some_bnd, pur_bnd, non_bnd, noE_pur, asBl_bl, bnd_ite, if_bl, if_true, if_false, Bool.false_eq_true, Bool.not_true, Bool.not_false, reduceIte, pyAt0, pyAt1, pyAt2, pyAt3, List.getElem?_cons_zero, List.getElem?_cons_succ, u_isStr_non, u_isStr_bl, u_isStr_int, u_isStr_str, u_isStr_tup, u_isStr_lst, u_isStr_own, u_isTup_non, u_isTup_bl, u_isTup_int, u_isTup_str, u_isTup_tup, u_isTup_lst, u_isTup_own, u_isInt_non, u_isInt_bl, u_isInt_int, u_isInt_str, u_isInt_tup, u_isInt_lst, u_isInt_own, u_isBl_non, u_isBl_bl, u_isBl_int, u_isBl_str, u_isBl_tup, u_isBl_lst, u_isBl_own, u_isLst_non, u_isLst_bl, u_isLst_int, u_isLst_str, u_isLst_tup, u_isLst_lst, u_isLst_own, ok_non, ok_bl, ok_int, ok_str, ok_tup, ok_lst, ok_own, ok_ref, u_len_str, u_len_tup, u_len_lst, u_len_own, u_int_int, u_neg_int, u_tuple_tup, u_list_tup, u_tuple_lst, u_list_lst, u_tuple_own, u_list_own, u_rev_tup, u_rev_lst, b_add_int, b_sub_int, b_add_tup, b_add_str, b_add_lst, b_mul_int, b_mod_int, b_fdiv_int, b_eq, b_ne, b_lt_int, b_lt_str, b_le_int, b_le_str, b_gt_int, b_gt_str, b_ge_int, b_ge_str, b_in_tup, b_in_lst, b_nin_tup, b_in_str, b_nin_str, b_is_bl, b_isn_bl, b_ix_tup, b_ix_lst, b_ix_str, eqO_int, eqO_str, eqO_bl, it_tup, it_lst, it_str, intOf_int, zip_tup, zip_lst, rng1_int, rng2_int, cut_tup, cut_lst, set0, setS, bindT1, bindT2, ownK_t, ownK_f, cut_own, b_in_own, b_nin_own, b_nin_lst, b_ix_own, bindP2, ok_pr, sq_lst, sq_own, sq_tup, idx_t, idx_l, idx_o, lam_pur, lam_err, try_pur, try_err, hdR_cons, raise_bnd, enu_tup, sets2, wipe1, wipe2, app_own, frz_own, lstK_lst, isStr_str, enu_lst, map_s, map_n, ofO_n, pow18, hp, decide_false, hm, hk, cel_lst]
    rw [wp_bnd]
    exact key 0 (by omega)
theorem cut_sub {l : List D} {lo hi : Option Int} {x : D} (h : x ∈ pyCut l lo hi) : x ∈ l := List.mem_of_mem_drop (List.mem_of_mem_take h)
/-- a loop without effects, in a law's words -/
theorem wp_forp {Φ : Fun} {C : Nat → Option D} {ρ : Env} {st : Sx} {β : Type} {K : Fl → M β} {Q : β → Store → Prop} {s : Store} {P : Env → Prop} (h : ∃ ρ1, exS Φ C st ρ = pur (.nx ρ1) ∧ P ρ1) (hk : ∀ ρ1, P ρ1 → wp (K (.nx ρ1)) Q s) : wp (bnd (exS Φ C st ρ) K) Q s := by
  obtain ⟨ρ1, e, p⟩ := h
  rw [e, pur_bnd]
  exact hk ρ1 p
theorem b_mul_lst {l : List D} {k : Int} : bop .mul (.lst l) (.int k) = if -(2 ^ 63) ≤ k ∧ k < 2 ^ 63 ∧ l.length * k.toNat ≤ lim then some (.lst (List.replicate k.toNat l).flatten) else none := id rfl
theorem mul1 {x : D} : bop .mul (.lst [x]) (.int 1) = some (.lst [x]) := by
  rw [b_mul_lst, if_pos ⟨by decide, by decide, by show 1 * 1 ≤ lim; decide⟩]; rfl
theorem mul0 {x : D} : bop .mul (.lst [x]) (.int 0) = some (.lst []) := by
  rw [b_mul_lst, if_pos ⟨by decide, by decide, by show 1 * 0 ≤ lim; decide⟩]; rfl
theorem rngLn {n : Nat} : rngL 0 (n : Int) = (List.range n).map fun (i : Nat) => D.int (i : Int) := by
  unfold rngL
  have : ((n : Int) - 0).toNat = n := by omega
  rw [this]
  simp
theorem zip_flat {u : Su} {w : Wo} : (List.range u.fs.length).flatMap (fun i => unsF u w i (u.fs.getD i ([], []))) = unsW u w := by
  unfold unsW
  have key : u.fs.zipIdx = (List.range u.fs.length).map fun i => (u.fs.getD i ([], []), i) := by
    apply List.ext_getElem?
    intro i
    rw [List.getElem?_zipIdx, List.getElem?_map]
    by_cases h : i < u.fs.length
    · rw [List.getElem?_range h, List.getElem?_eq_getElem h]
      simp [List.getD_eq_getElem?_getD, List.getElem?_eq_getElem h]
    · rw [List.getElem?_eq_none (by omega : u.fs.length ≤ i)]
      rw [List.getElem?_eq_none (by rw [List.length_range]; omega)]
      rfl
  rw [key, List.flatMap_map]
abbrev odds : List D := [.non, .str [76, 101, 102, 116], .int 0, .tup [.str wLeft], .str []]
theorem odd_at {v : D} (h : v ∈ odds) : sm 4 1 v = true ∧ isLabel v = false ∧ isWord sides v = false ∧ asOk v = pur v := by
  simp only [List.mem_cons, List.not_mem_nil, or_false] at h
  rcases h with rfl | rfl | rfl | rfl | rfl <;> exact ⟨by decide +kernel, by decide +kernel, by decide +kernel, rfl⟩
theorem lam2 : lamF t0 (raise ⟨2, none⟩) = pur (.str [115, 105, 100, 101]) := rfl
theorem lam3 : lamF t0 (raise ⟨3, none⟩) = pur (.str [102, 105, 101, 108, 100]) := rfl
theorem lam4 : lamF t0 (raise ⟨4, none⟩) = pur (.str [118, 97, 108, 117, 101]) := rfl
theorem fitL_uns {u : Su} : D.fitL 5 (unsU u) = true := fitL_iff.mpr fun d hd => by
  unfold unsU unsW unsF at hd
  obtain ⟨w, _, hd⟩ := List.mem_flatMap.mp hd
  obtain ⟨p, _, hd⟩ := List.mem_flatMap.mp hd
  obtain ⟨v, _, hd⟩ := List.mem_flatMap.mp hd
  split at hd
  · rw [List.mem_singleton.mp hd]; rfl
  · cases hd
theorem eqL_uns : ∀ {l : List D}, (∀ d ∈ l, ∃ a b c : Wo, d = .tup [.str a, .str b, .str c]) → D.eqL l l = true
  | [], _ => by unfold D.eqL; rfl
  | d :: l, h => by
    obtain ⟨a, b, c, e⟩ := h d (List.mem_cons_self ..)
    have h1 : D.eq d d = true := by
      rw [e]
      show D.eqL (([a, b, c] : List Wo).map .str) (([a, b, c] : List Wo).map .str) = true
      exact eqL_strs _
    unfold D.eqL
    rw [h1, eqL_uns fun x hx => h x (List.mem_cons_of_mem _ hx)]
    rfl
theorem eq_uns {u : Su} : eqO (.lst (unsU u)) (.lst (unsU u)) = some true := by
  have hf : (D.lst (unsU u)).fit 6 = true := by unfold D.fit; exact fitL_uns
  rw [eqO_fit (fit_mono (by decide) hf) (fit_mono (by decide) hf)]
  congr 1
  unfold D.eq
  refine eqL_uns fun d hd => ?_
  unfold unsU unsW unsF at hd
  obtain ⟨w, _, hd⟩ := List.mem_flatMap.mp hd
  obtain ⟨p, _, hd⟩ := List.mem_flatMap.mp hd
  obtain ⟨v, _, hd⟩ := List.mem_flatMap.mp hd
  split at hd
  · rw [List.mem_singleton.mp hd]; exact ⟨_, _, _, rfl⟩
  · cases hd
theorem eq_unsn {u : Su} : eqO (.lst (unsU u)) (.lst []) = some (D.eq (.lst (unsU u)) (.lst [])) := by
  have hf : (D.lst (unsU u)).fit 6 = true := by unfold D.fit; exact fitL_uns
  have hn : (D.lst []).fit 6 = true := rfl
  exact eqO_fit (fit_mono (by decide) hf) (fit_mono (by decide) hn)
end K04

namespace K04
open Ev
theorem u_int_t : uop .int (.bl true) = some (.int 1) := rfl
theorem u_int_f : uop .int (.bl false) = some (.int 0) := rfl
/-- the law's loops over one setup -/
theorem inmost (k : Nat) {u : Su} (o : OkU u) {w : Wo} (h : isSd w) {i : Nat} {f : Wo × List Wo} (hf : u.fs[i]? = some f) {v : Wo} (hv : v ∈ f.2) {acc : List D} (hN : acc.length + (if badv u i f w v then [tri f w v] else []).length ≤ 16) {o0 o1 o2 o4 o5 o12 o13 : Option D} :
    ∃ ρ', exS (runF T.fns T.C (k + 6)) T.C (.cons (.ite (.bi .ne (.call 16 (.cons (.var 6) (.cons (.var 3) (.cons (.var 9) (.cons (.var 11) .nil))))) (.call 26 (.cons (.var 6) (.cons (.var 3) (.cons (.var 8) (.cons (.var 11) .nil))))))
(.cons (.ret (.lit (.bl false)))
.nil)
.nil)
(.cons (.set 12 (.call 24 (.cons (.var 6) (.cons (.var 3) (.cons (.var 8) (.cons (.var 11) .nil))))))
(.cons (.set 13 (.call 24 (.cons (.var 6) (.cons (.call 25 (.cons (.var 3) .nil)) (.cons (.var 8) (.cons (.var 12) .nil))))))
(.cons (.set 7 (.bi .add (.var 7) (.bi .mul (.lst (.cons (.tup (.cons (.var 3) (.cons (.var 9) (.cons (.var 11) .nil)))) .nil)) (.un .int (.bi .ne (.call 24 (.cons (.var 6) (.cons (.var 3) (.cons (.var 8) (.cons (.var 13) .nil))))) (.var 12))))))
.nil)))) [o0, o1, o2, some (.str w), o4, o5, some (dSetup u), some (.lst acc), some (.int (i : Int)), some (.str f.1), some (.tup (f.2.map .str)), some (.str v), o12, o13] = pur (.nx ρ') ∧ ∃ o12 o13, ρ' = [o0, o1, o2, some (.str w), o4, o5, some (dSetup u), some (.lst (acc ++ (if badv u i f w v then [tri f w v] else []))), some (.int (i : Int)), some (.str f.1), some (.tup (f.2.map .str)), some (.str v), o12, o13] := by
  have q16 := r16s k o h hf hv
  have q26 := r26s (k + 4) o h hf hv
  have q25 := r25s (k + 5) h
  have q1 := r24s (k + 5) o.g h (fi_at o.g w hf) hv
  have m1 := st_mem o.g (fi_at o.g w hf) hv
  have q2 := r24s (k + 5) o.g oth_sd (fi_at o.g (oth w) hf) m1
  have m2 := st_mem o.g (fi_at o.g (oth w) hf) m1
  have q3 := r24s (k + 5) o.g h (fi_at o.g w hf) m2
  have e1 := eq_ech o.g h hf hv
  simp only [q16, q26, q25, q1, q2, q3, e1, ok_setup, ok_ech, eqO_str, ev_var, ev_lit, ev_con, ev_tup, ev_lst, ev_un, ev_bi, ev_ch, ev_not, ev_and, ev_or, ev_ite, ev_cut, ev_call, ev_cel, ev_at0, ev_meth, ev_dct, ev_get2, ev_idx, ev_lam, evL_nil, evL_cons, evO_nil, evO_val, evC_nil, evC_val, itr_val, itr_rng1, itr_rng2, itr_zip, ex_nil, ex_cons, ex_skip, ex_set, ex_own, ex_frz, ex_unp, ex_par, ex_app, ex_put, ex_bad, ex_rse, ex_rsf, ex_try, ex_paro, itr_enu, ex_ret, ex_drop, ex_ite, bnd_assoc, fit_non, fit_bl, fit_int, fit_str, fitL_nil, fitL_cons, eq_ii, eq_ss, eq_bb, List.any_cons, List.any_nil, Bool.or_false, Bool.and_self, Bool.and_true, Bool.true_and, slot0, slotS, ofO_some, some_bnd, pur_bnd, non_bnd, noE_pur, asBl_bl, bnd_ite, if_bl, if_true, if_false, Bool.false_eq_true, Bool.not_true, Bool.not_false, reduceIte, pyAt0, pyAt1, pyAt2, pyAt3, List.getElem?_cons_zero, List.getElem?_cons_succ, u_isStr_non, u_isStr_bl, u_isStr_int, u_isStr_str, u_isStr_tup, u_isStr_lst, u_isStr_own, u_isTup_non, u_isTup_bl, u_isTup_int, u_isTup_str, u_isTup_tup, u_isTup_lst, u_isTup_own, u_isInt_non, u_isInt_bl, u_isInt_int, u_isInt_str, u_isInt_tup, u_isInt_lst, u_isInt_own, u_isBl_non, u_isBl_bl, u_isBl_int, u_isBl_str, u_isBl_tup, u_isBl_lst, u_isBl_own, u_isLst_non, u_isLst_bl, u_isLst_int, u_isLst_str, u_isLst_tup, u_isLst_lst, u_isLst_own, ok_non, ok_bl, ok_int, ok_str, ok_tup, ok_lst, ok_own, ok_ref, u_len_str, u_len_tup, u_len_lst, u_len_own, u_int_int, u_neg_int, u_tuple_tup, u_list_tup, u_tuple_lst, u_list_lst, u_tuple_own, u_list_own, u_rev_tup, u_rev_lst, b_add_int, b_sub_int, b_add_tup, b_add_str, b_add_lst, b_mul_int, b_mod_int, b_fdiv_int, b_eq, b_ne, b_lt_int, b_lt_str, b_le_int, b_le_str, b_gt_int, b_gt_str, b_ge_int, b_ge_str, b_in_tup, b_in_lst, b_nin_tup, b_in_str, b_nin_str, b_is_bl, b_isn_bl, b_ix_tup, b_ix_lst, b_ix_str, eqO_int, eqO_str, eqO_bl, it_tup, it_lst, it_str, intOf_int, zip_tup, zip_lst, rng1_int, rng2_int, cut_tup, cut_lst, set0, setS, bindT1, bindT2, ownK_t, ownK_f, cut_own, b_in_own, b_nin_own, b_nin_lst, b_ix_own, bindP2, ok_pr, sq_lst, sq_own, sq_tup, idx_t, idx_l, idx_o, lam_pur, lam_err, try_pur, try_err, hdR_cons, raise_bnd, enu_tup, sets2, wipe1, wipe2, app_own, frz_own, lstK_lst, isStr_str, enu_lst, map_s, map_n, ofO_n]
  by_cases hb : badv u i f w v = true
  · have hb' : (stW f.2 (rowAt u w i) (stW f.2 (rowAt u (oth w) i) (stW f.2 (rowAt u w i) v)) == stW f.2 (rowAt u w i) v) = false := by simpa [badv] using hb
    rw [if_pos hb] at hN ⊢
    have hl : (acc.length + ([tri f w v] : List D).length ≤ lim) = True := eq_true (Nat.le_trans hN (by decide))
    unfold tri at hl
    simp only [hb', u_int_t, mul1, hl, Bool.not_false, if_true, ev_var, ev_lit, ev_con, ev_tup, ev_lst, ev_un, ev_bi, ev_ch, ev_not, ev_and, ev_or, ev_ite, ev_cut, ev_call, ev_cel, ev_at0, ev_meth, ev_dct, ev_get2, ev_idx, ev_lam, evL_nil, evL_cons, evO_nil, evO_val, evC_nil, evC_val, itr_val, itr_rng1, itr_rng2, itr_zip, ex_nil, ex_cons, ex_skip, ex_set, ex_own, ex_frz, ex_unp, ex_par, ex_app, ex_put, ex_bad, ex_rse, ex_rsf, ex_try, ex_paro, itr_enu, ex_ret, ex_drop, ex_ite, bnd_assoc, fit_non, fit_bl, fit_int, fit_str, fitL_nil, fitL_cons, eq_ii, eq_ss, eq_bb, List.any_cons, List.any_nil, Bool.or_false, Bool.and_self, Bool.and_true, Bool.true_and, slot0, slotS, ofO_some, some_bnd, pur_bnd, non_bnd, noE_pur, asBl_bl, bnd_ite, if_bl, if_true, if_false, Bool.false_eq_true, Bool.not_true, Bool.not_false, reduceIte, pyAt0, pyAt1, pyAt2, pyAt3, List.getElem?_cons_zero, List.getElem?_cons_succ, u_isStr_non, u_isStr_bl, u_isStr_int, u_isStr_str, u_isStr_tup, u_isStr_lst, u_isStr_own, u_isTup_non, u_isTup_bl, u_isTup_int, u_isTup_str, u_isTup_tup, u_isTup_lst, u_isTup_own, u_isInt_non, u_isInt_bl, u_isInt_int, u_isInt_str, u_isInt_tup, u_isInt_lst, u_isInt_own, u_isBl_non, u_isBl_bl, u_isBl_int, u_isBl_str, u_isBl_tup, u_isBl_lst, u_isBl_own, u_isLst_non, u_isLst_bl, u_isLst_int, u_isLst_str, u_isLst_tup, u_isLst_lst, u_isLst_own, ok_non, ok_bl, ok_int, ok_str, ok_tup, ok_lst, ok_own, ok_ref, u_len_str, u_len_tup, u_len_lst, u_len_own, u_int_int, u_neg_int, u_tuple_tup, u_list_tup, u_tuple_lst, u_list_lst, u_tuple_own, u_list_own, u_rev_tup, u_rev_lst, b_add_int, b_sub_int, b_add_tup, b_add_str, b_add_lst, b_mul_int, b_mod_int, b_fdiv_int, b_eq, b_ne, b_lt_int, b_lt_str, b_le_int, b_le_str, b_gt_int, b_gt_str, b_ge_int, b_ge_str, b_in_tup, b_in_lst, b_nin_tup, b_in_str, b_nin_str, b_is_bl, b_isn_bl, b_ix_tup, b_ix_lst, b_ix_str, eqO_int, eqO_str, eqO_bl, it_tup, it_lst, it_str, intOf_int, zip_tup, zip_lst, rng1_int, rng2_int, cut_tup, cut_lst, set0, setS, bindT1, bindT2, ownK_t, ownK_f, cut_own, b_in_own, b_nin_own, b_nin_lst, b_ix_own, bindP2, ok_pr, sq_lst, sq_own, sq_tup, idx_t, idx_l, idx_o, lam_pur, lam_err, try_pur, try_err, hdR_cons, raise_bnd, enu_tup, sets2, wipe1, wipe2, app_own, frz_own, lstK_lst, isStr_str, enu_lst, map_s, map_n, ofO_n]
    exact ⟨_, rfl, _, _, rfl⟩
  · have hb' : (stW f.2 (rowAt u w i) (stW f.2 (rowAt u (oth w) i) (stW f.2 (rowAt u w i) v)) == stW f.2 (rowAt u w i) v) = true := by simpa [badv] using hb
    rw [if_neg hb] at hN ⊢
    have hl : (acc.length + ([] : List D).length ≤ lim) = True := eq_true (Nat.le_trans hN (by decide))
    simp only [hb', u_int_f, mul0, hl, Bool.not_true, ev_var, ev_lit, ev_con, ev_tup, ev_lst, ev_un, ev_bi, ev_ch, ev_not, ev_and, ev_or, ev_ite, ev_cut, ev_call, ev_cel, ev_at0, ev_meth, ev_dct, ev_get2, ev_idx, ev_lam, evL_nil, evL_cons, evO_nil, evO_val, evC_nil, evC_val, itr_val, itr_rng1, itr_rng2, itr_zip, ex_nil, ex_cons, ex_skip, ex_set, ex_own, ex_frz, ex_unp, ex_par, ex_app, ex_put, ex_bad, ex_rse, ex_rsf, ex_try, ex_paro, itr_enu, ex_ret, ex_drop, ex_ite, bnd_assoc, fit_non, fit_bl, fit_int, fit_str, fitL_nil, fitL_cons, eq_ii, eq_ss, eq_bb, List.any_cons, List.any_nil, Bool.or_false, Bool.and_self, Bool.and_true, Bool.true_and, slot0, slotS, ofO_some, some_bnd, pur_bnd, non_bnd, noE_pur, asBl_bl, bnd_ite, if_bl, if_true, if_false, Bool.false_eq_true, Bool.not_true, Bool.not_false, reduceIte, pyAt0, pyAt1, pyAt2, pyAt3, List.getElem?_cons_zero, List.getElem?_cons_succ, u_isStr_non, u_isStr_bl, u_isStr_int, u_isStr_str, u_isStr_tup, u_isStr_lst, u_isStr_own, u_isTup_non, u_isTup_bl, u_isTup_int, u_isTup_str, u_isTup_tup, u_isTup_lst, u_isTup_own, u_isInt_non, u_isInt_bl, u_isInt_int, u_isInt_str, u_isInt_tup, u_isInt_lst, u_isInt_own, u_isBl_non, u_isBl_bl, u_isBl_int, u_isBl_str, u_isBl_tup, u_isBl_lst, u_isBl_own, u_isLst_non, u_isLst_bl, u_isLst_int, u_isLst_str, u_isLst_tup, u_isLst_lst, u_isLst_own, ok_non, ok_bl, ok_int, ok_str, ok_tup, ok_lst, ok_own, ok_ref, u_len_str, u_len_tup, u_len_lst, u_len_own, u_int_int, u_neg_int, u_tuple_tup, u_list_tup, u_tuple_lst, u_list_lst, u_tuple_own, u_list_own, u_rev_tup, u_rev_lst, b_add_int, b_sub_int, b_add_tup, b_add_str, b_add_lst, b_mul_int, b_mod_int, b_fdiv_int, b_eq, b_ne, b_lt_int, b_lt_str, b_le_int, b_le_str, b_gt_int, b_gt_str, b_ge_int, b_ge_str, b_in_tup, b_in_lst, b_nin_tup, b_in_str, b_nin_str, b_is_bl, b_isn_bl, b_ix_tup, b_ix_lst, b_ix_str, eqO_int, eqO_str, eqO_bl, it_tup, it_lst, it_str, intOf_int, zip_tup, zip_lst, rng1_int, rng2_int, cut_tup, cut_lst, set0, setS, bindT1, bindT2, ownK_t, ownK_f, cut_own, b_in_own, b_nin_own, b_nin_lst, b_ix_own, bindP2, ok_pr, sq_lst, sq_own, sq_tup, idx_t, idx_l, idx_o, lam_pur, lam_err, try_pur, try_err, hdR_cons, raise_bnd, enu_tup, sets2, wipe1, wipe2, app_own, frz_own, lstK_lst, isStr_str, enu_lst, map_s, map_n, ofO_n]
    exact ⟨_, rfl, _, _, rfl⟩
theorem names_at {u : Su} (g : Gd u) (w : Wo) (hw : w ∈ u.fs.map (·.1)) : lab w := by
  obtain ⟨f, hf, rfl⟩ := List.mem_map.mp hw
  exact (g.fs f hf).1
theorem law_ (ns : List Int) (hn : ns.length ≤ 63) (s0 : Store) : wp (F 60 27 [.lst (ns.map .int)]) (fun d _ => d = .bl true) s0 := by
  rw [F, show (60 : Nat) = 59 + 1 from rfl, runF_at (fd := f27) rfl rfl]
  show wp (bnd (exS _ _ b27 [some (.lst (ns.map .int)), none, none, none, none, none, none, none, none, none, none, none, none, none]) _) _ _
  unfold b27
  simp only [ev_var, ev_lit, ev_con, ev_tup, ev_lst, ev_un, ev_bi, ev_ch, ev_not, ev_and, ev_or, ev_ite, ev_cut, ev_call, ev_cel, ev_at0, ev_meth, ev_dct, ev_get2, ev_idx, ev_lam, evL_nil, evL_cons, evO_nil, evO_val, evC_nil, evC_val, itr_val, itr_rng1, itr_rng2, itr_zip, ex_nil, ex_cons, ex_skip, ex_set, ex_own, ex_frz, ex_unp, ex_par, ex_app, ex_put, ex_bad, ex_rse, ex_rsf, ex_try, ex_paro, itr_enu, ex_ret, ex_drop, ex_ite, bnd_assoc, fit_non, fit_bl, fit_int, fit_str, fitL_nil, fitL_cons, eq_ii, eq_ss, eq_bb, List.any_cons, List.any_nil, Bool.or_false, Bool.and_self, Bool.and_true, Bool.true_and, slot0, slotS, ofO_some, some_bnd, pur_bnd, non_bnd, noE_pur, asBl_bl, bnd_ite, if_bl, if_true, if_false, Bool.false_eq_true, Bool.not_true, Bool.not_false, reduceIte, pyAt0, pyAt1, pyAt2, pyAt3, List.getElem?_cons_zero, List.getElem?_cons_succ, u_isStr_non, u_isStr_bl, u_isStr_int, u_isStr_str, u_isStr_tup, u_isStr_lst, u_isStr_own, u_isTup_non, u_isTup_bl, u_isTup_int, u_isTup_str, u_isTup_tup, u_isTup_lst, u_isTup_own, u_isInt_non, u_isInt_bl, u_isInt_int, u_isInt_str, u_isInt_tup, u_isInt_lst, u_isInt_own, u_isBl_non, u_isBl_bl, u_isBl_int, u_isBl_str, u_isBl_tup, u_isBl_lst, u_isBl_own, u_isLst_non, u_isLst_bl, u_isLst_int, u_isLst_str, u_isLst_tup, u_isLst_lst, u_isLst_own, ok_non, ok_bl, ok_int, ok_str, ok_tup, ok_lst, ok_own, ok_ref, u_len_str, u_len_tup, u_len_lst, u_len_own, u_int_int, u_neg_int, u_tuple_tup, u_list_tup, u_tuple_lst, u_list_lst, u_tuple_own, u_list_own, u_rev_tup, u_rev_lst, b_add_int, b_sub_int, b_add_tup, b_add_str, b_add_lst, b_mul_int, b_mod_int, b_fdiv_int, b_eq, b_ne, b_lt_int, b_lt_str, b_le_int, b_le_str, b_gt_int, b_gt_str, b_ge_int, b_ge_str, b_in_tup, b_in_lst, b_nin_tup, b_in_str, b_nin_str, b_is_bl, b_isn_bl, b_ix_tup, b_ix_lst, b_ix_str, eqO_int, eqO_str, eqO_bl, it_tup, it_lst, it_str, intOf_int, zip_tup, zip_lst, rng1_int, rng2_int, cut_tup, cut_lst, set0, setS, bindT1, bindT2, ownK_t, ownK_f, cut_own, b_in_own, b_nin_own, b_nin_lst, b_ix_own, bindP2, ok_pr, sq_lst, sq_own, sq_tup, idx_t, idx_l, idx_o, lam_pur, lam_err, try_pur, try_err, hdR_cons, raise_bnd, enu_tup, sets2, wipe1, wipe2, app_own, frz_own, lstK_lst, isStr_str, enu_lst, map_s, map_n, ofO_n]
  have hlen : (([D.int 0] : List D).length + (ns.map D.int).length ≤ lim) = True := eq_true (by rw [List.length_map]; show 1 + ns.length ≤ 16777216; omega)
  refine wp_for (pyCut ([D.int 0] ++ ns.map .int) none (some 10)) (fun pre ρ s => ∃ o1 o2 o3 o4 o5 o6 o7 o8 o9 o10 o11 o12 o13, ρ = [some (.lst (ns.map .int)), o1, o2, o3, o4, o5, o6, o7, o8, o9, o10, o11, o12, o13]) (by simp only [hlen, ev_var, ev_lit, ev_con, ev_tup, ev_lst, ev_un, ev_bi, ev_ch, ev_not, ev_and, ev_or, ev_ite, ev_cut, ev_call, ev_cel, ev_at0, ev_meth, ev_dct, ev_get2, ev_idx, ev_lam, evL_nil, evL_cons, evO_nil, evO_val, evC_nil, evC_val, itr_val, itr_rng1, itr_rng2, itr_zip, ex_nil, ex_cons, ex_skip, ex_set, ex_own, ex_frz, ex_unp, ex_par, ex_app, ex_put, ex_bad, ex_rse, ex_rsf, ex_try, ex_paro, itr_enu, ex_ret, ex_drop, ex_ite, bnd_assoc, fit_non, fit_bl, fit_int, fit_str, fitL_nil, fitL_cons, eq_ii, eq_ss, eq_bb, List.any_cons, List.any_nil, Bool.or_false, Bool.and_self, Bool.and_true, Bool.true_and, slot0, slotS, ofO_some, some_bnd, pur_bnd, non_bnd, noE_pur, asBl_bl, bnd_ite, if_bl, if_true, if_false, Bool.false_eq_true, Bool.not_true, Bool.not_false, reduceIte, pyAt0, pyAt1, pyAt2, pyAt3, List.getElem?_cons_zero, List.getElem?_cons_succ, u_isStr_non, u_isStr_bl, u_isStr_int, u_isStr_str, u_isStr_tup, u_isStr_lst, u_isStr_own, u_isTup_non, u_isTup_bl, u_isTup_int, u_isTup_str, u_isTup_tup, u_isTup_lst, u_isTup_own, u_isInt_non, u_isInt_bl, u_isInt_int, u_isInt_str, u_isInt_tup, u_isInt_lst, u_isInt_own, u_isBl_non, u_isBl_bl, u_isBl_int, u_isBl_str, u_isBl_tup, u_isBl_lst, u_isBl_own, u_isLst_non, u_isLst_bl, u_isLst_int, u_isLst_str, u_isLst_tup, u_isLst_lst, u_isLst_own, ok_non, ok_bl, ok_int, ok_str, ok_tup, ok_lst, ok_own, ok_ref, u_len_str, u_len_tup, u_len_lst, u_len_own, u_int_int, u_neg_int, u_tuple_tup, u_list_tup, u_tuple_lst, u_list_lst, u_tuple_own, u_list_own, u_rev_tup, u_rev_lst, b_add_int, b_sub_int, b_add_tup, b_add_str, b_add_lst, b_mul_int, b_mod_int, b_fdiv_int, b_eq, b_ne, b_lt_int, b_lt_str, b_le_int, b_le_str, b_gt_int, b_gt_str, b_ge_int, b_ge_str, b_in_tup, b_in_lst, b_nin_tup, b_in_str, b_nin_str, b_is_bl, b_isn_bl, b_ix_tup, b_ix_lst, b_ix_str, eqO_int, eqO_str, eqO_bl, it_tup, it_lst, it_str, intOf_int, zip_tup, zip_lst, rng1_int, rng2_int, cut_tup, cut_lst, set0, setS, bindT1, bindT2, ownK_t, ownK_f, cut_own, b_in_own, b_nin_own, b_nin_lst, b_ix_own, bindP2, ok_pr, sq_lst, sq_own, sq_tup, idx_t, idx_l, idx_o, lam_pur, lam_err, try_pur, try_err, hdR_cons, raise_bnd, enu_tup, sets2, wipe1, wipe2, app_own, frz_own, lstK_lst, isStr_str, enu_lst, map_s, map_n, ofO_n]) ⟨_, _, _, _, _, _, _, _, _, _, _, _, _, rfl⟩ ?_ ?_
  · rintro pre d post _ s e ⟨o1, o2, o3, o4, o5, o6, o7, o8, o9, o10, o11, o12, o13, rfl⟩
    obtain ⟨i, rfl⟩ : ∃ i, d = .int i := by
      have hd : d ∈ pyCut ([D.int 0] ++ ns.map .int) none (some 10) := by rw [e]; simp
      rcases List.mem_append.mp (cut_sub hd) with h | h
      · exact ⟨0, List.mem_singleton.mp h⟩
      · obtain ⟨i, _, rfl⟩ := List.mem_map.mp h
        exact ⟨i, rfl⟩
    simp only [ev_var, ev_lit, ev_con, ev_tup, ev_lst, ev_un, ev_bi, ev_ch, ev_not, ev_and, ev_or, ev_ite, ev_cut, ev_call, ev_cel, ev_at0, ev_meth, ev_dct, ev_get2, ev_idx, ev_lam, evL_nil, evL_cons, evO_nil, evO_val, evC_nil, evC_val, itr_val, itr_rng1, itr_rng2, itr_zip, ex_nil, ex_cons, ex_skip, ex_set, ex_own, ex_frz, ex_unp, ex_par, ex_app, ex_put, ex_bad, ex_rse, ex_rsf, ex_try, ex_paro, itr_enu, ex_ret, ex_drop, ex_ite, bnd_assoc, fit_non, fit_bl, fit_int, fit_str, fitL_nil, fitL_cons, eq_ii, eq_ss, eq_bb, List.any_cons, List.any_nil, Bool.or_false, Bool.and_self, Bool.and_true, Bool.true_and, slot0, slotS, ofO_some, some_bnd, pur_bnd, non_bnd, noE_pur, asBl_bl, bnd_ite, if_bl, if_true, if_false, Bool.false_eq_true, Bool.not_true, Bool.not_false, reduceIte, pyAt0, pyAt1, pyAt2, pyAt3, List.getElem?_cons_zero, List.getElem?_cons_succ, u_isStr_non, u_isStr_bl, u_isStr_int, u_isStr_str, u_isStr_tup, u_isStr_lst, u_isStr_own, u_isTup_non, u_isTup_bl, u_isTup_int, u_isTup_str, u_isTup_tup, u_isTup_lst, u_isTup_own, u_isInt_non, u_isInt_bl, u_isInt_int, u_isInt_str, u_isInt_tup, u_isInt_lst, u_isInt_own, u_isBl_non, u_isBl_bl, u_isBl_int, u_isBl_str, u_isBl_tup, u_isBl_lst, u_isBl_own, u_isLst_non, u_isLst_bl, u_isLst_int, u_isLst_str, u_isLst_tup, u_isLst_lst, u_isLst_own, ok_non, ok_bl, ok_int, ok_str, ok_tup, ok_lst, ok_own, ok_ref, u_len_str, u_len_tup, u_len_lst, u_len_own, u_int_int, u_neg_int, u_tuple_tup, u_list_tup, u_tuple_lst, u_list_lst, u_tuple_own, u_list_own, u_rev_tup, u_rev_lst, b_add_int, b_sub_int, b_add_tup, b_add_str, b_add_lst, b_mul_int, b_mod_int, b_fdiv_int, b_eq, b_ne, b_lt_int, b_lt_str, b_le_int, b_le_str, b_gt_int, b_gt_str, b_ge_int, b_ge_str, b_in_tup, b_in_lst, b_nin_tup, b_in_str, b_nin_str, b_is_bl, b_isn_bl, b_ix_tup, b_ix_lst, b_ix_str, eqO_int, eqO_str, eqO_bl, it_tup, it_lst, it_str, intOf_int, zip_tup, zip_lst, rng1_int, rng2_int, cut_tup, cut_lst, set0, setS, bindT1, bindT2, ownK_t, ownK_f, cut_own, b_in_own, b_nin_own, b_nin_lst, b_ix_own, bindP2, ok_pr, sq_lst, sq_own, sq_tup, idx_t, idx_l, idx_o, lam_pur, lam_err, try_pur, try_err, hdR_cons, raise_bnd, enu_tup, sets2, wipe1, wipe2, app_own, frz_own, lstK_lst, isStr_str, enu_lst, map_s, map_n, ofO_n]
    rw [wp_bnd]
    refine hand 58 fun c s1 hs1 => ?_
    simp only [ev_var, ev_lit, ev_con, ev_tup, ev_lst, ev_un, ev_bi, ev_ch, ev_not, ev_and, ev_or, ev_ite, ev_cut, ev_call, ev_cel, ev_at0, ev_meth, ev_dct, ev_get2, ev_idx, ev_lam, evL_nil, evL_cons, evO_nil, evO_val, evC_nil, evC_val, itr_val, itr_rng1, itr_rng2, itr_zip, ex_nil, ex_cons, ex_skip, ex_set, ex_own, ex_frz, ex_unp, ex_par, ex_app, ex_put, ex_bad, ex_rse, ex_rsf, ex_try, ex_paro, itr_enu, ex_ret, ex_drop, ex_ite, bnd_assoc, fit_non, fit_bl, fit_int, fit_str, fitL_nil, fitL_cons, eq_ii, eq_ss, eq_bb, List.any_cons, List.any_nil, Bool.or_false, Bool.and_self, Bool.and_true, Bool.true_and, slot0, slotS, ofO_some, some_bnd, pur_bnd, non_bnd, noE_pur, asBl_bl, bnd_ite, if_bl, if_true, if_false, Bool.false_eq_true, Bool.not_true, Bool.not_false, reduceIte, pyAt0, pyAt1, pyAt2, pyAt3, List.getElem?_cons_zero, List.getElem?_cons_succ, u_isStr_non, u_isStr_bl, u_isStr_int, u_isStr_str, u_isStr_tup, u_isStr_lst, u_isStr_own, u_isTup_non, u_isTup_bl, u_isTup_int, u_isTup_str, u_isTup_tup, u_isTup_lst, u_isTup_own, u_isInt_non, u_isInt_bl, u_isInt_int, u_isInt_str, u_isInt_tup, u_isInt_lst, u_isInt_own, u_isBl_non, u_isBl_bl, u_isBl_int, u_isBl_str, u_isBl_tup, u_isBl_lst, u_isBl_own, u_isLst_non, u_isLst_bl, u_isLst_int, u_isLst_str, u_isLst_tup, u_isLst_lst, u_isLst_own, ok_non, ok_bl, ok_int, ok_str, ok_tup, ok_lst, ok_own, ok_ref, u_len_str, u_len_tup, u_len_lst, u_len_own, u_int_int, u_neg_int, u_tuple_tup, u_list_tup, u_tuple_lst, u_list_lst, u_tuple_own, u_list_own, u_rev_tup, u_rev_lst, b_add_int, b_sub_int, b_add_tup, b_add_str, b_add_lst, b_mul_int, b_mod_int, b_fdiv_int, b_eq, b_ne, b_lt_int, b_lt_str, b_le_int, b_le_str, b_gt_int, b_gt_str, b_ge_int, b_ge_str, b_in_tup, b_in_lst, b_nin_tup, b_in_str, b_nin_str, b_is_bl, b_isn_bl, b_ix_tup, b_ix_lst, b_ix_str, eqO_int, eqO_str, eqO_bl, it_tup, it_lst, it_str, intOf_int, zip_tup, zip_lst, rng1_int, rng2_int, cut_tup, cut_lst, set0, setS, bindT1, bindT2, ownK_t, ownK_f, cut_own, b_in_own, b_nin_own, b_nin_lst, b_ix_own, bindP2, ok_pr, sq_lst, sq_own, sq_tup, idx_t, idx_l, idx_o, lam_pur, lam_err, try_pur, try_err, hdR_cons, raise_bnd, enu_tup, sets2, wipe1, wipe2, app_own, frz_own, lstK_lst, isStr_str, enu_lst, map_s, map_n, ofO_n]
    rw [wp_bnd]
    refine r13 55 hs1 fun st s2 hst sst hs2 => ?_
    obtain ⟨u, rfl, g⟩ := setup_su hst
    have o : OkU u := ⟨g, hst, sst⟩
    have a3 : bop .ix (dSetup u) (.int 0) = some (.tup (u.fs.map dField)) := rfl
    simp only [ok_setup, ev_var, ev_lit, ev_con, ev_tup, ev_lst, ev_un, ev_bi, ev_ch, ev_not, ev_and, ev_or, ev_ite, ev_cut, ev_call, ev_cel, ev_at0, ev_meth, ev_dct, ev_get2, ev_idx, ev_lam, evL_nil, evL_cons, evO_nil, evO_val, evC_nil, evC_val, itr_val, itr_rng1, itr_rng2, itr_zip, ex_nil, ex_cons, ex_skip, ex_set, ex_own, ex_frz, ex_unp, ex_par, ex_app, ex_put, ex_bad, ex_rse, ex_rsf, ex_try, ex_paro, itr_enu, ex_ret, ex_drop, ex_ite, bnd_assoc, fit_non, fit_bl, fit_int, fit_str, fitL_nil, fitL_cons, eq_ii, eq_ss, eq_bb, List.any_cons, List.any_nil, Bool.or_false, Bool.and_self, Bool.and_true, Bool.true_and, slot0, slotS, ofO_some, some_bnd, pur_bnd, non_bnd, noE_pur, asBl_bl, bnd_ite, if_bl, if_true, if_false, Bool.false_eq_true, Bool.not_true, Bool.not_false, reduceIte, pyAt0, pyAt1, pyAt2, pyAt3, List.getElem?_cons_zero, List.getElem?_cons_succ, u_isStr_non, u_isStr_bl, u_isStr_int, u_isStr_str, u_isStr_tup, u_isStr_lst, u_isStr_own, u_isTup_non, u_isTup_bl, u_isTup_int, u_isTup_str, u_isTup_tup, u_isTup_lst, u_isTup_own, u_isInt_non, u_isInt_bl, u_isInt_int, u_isInt_str, u_isInt_tup, u_isInt_lst, u_isInt_own, u_isBl_non, u_isBl_bl, u_isBl_int, u_isBl_str, u_isBl_tup, u_isBl_lst, u_isBl_own, u_isLst_non, u_isLst_bl, u_isLst_int, u_isLst_str, u_isLst_tup, u_isLst_lst, u_isLst_own, ok_non, ok_bl, ok_int, ok_str, ok_tup, ok_lst, ok_own, ok_ref, u_len_str, u_len_tup, u_len_lst, u_len_own, u_int_int, u_neg_int, u_tuple_tup, u_list_tup, u_tuple_lst, u_list_lst, u_tuple_own, u_list_own, u_rev_tup, u_rev_lst, b_add_int, b_sub_int, b_add_tup, b_add_str, b_add_lst, b_mul_int, b_mod_int, b_fdiv_int, b_eq, b_ne, b_lt_int, b_lt_str, b_le_int, b_le_str, b_gt_int, b_gt_str, b_ge_int, b_ge_str, b_in_tup, b_in_lst, b_nin_tup, b_in_str, b_nin_str, b_is_bl, b_isn_bl, b_ix_tup, b_ix_lst, b_ix_str, eqO_int, eqO_str, eqO_bl, it_tup, it_lst, it_str, intOf_int, zip_tup, zip_lst, rng1_int, rng2_int, cut_tup, cut_lst, set0, setS, bindT1, bindT2, ownK_t, ownK_f, cut_own, b_in_own, b_nin_own, b_nin_lst, b_ix_own, bindP2, ok_pr, sq_lst, sq_own, sq_tup, idx_t, idx_l, idx_o, lam_pur, lam_err, try_pur, try_err, hdR_cons, raise_bnd, enu_tup, sets2, wipe1, wipe2, app_own, frz_own, lstK_lst, isStr_str, enu_lst, map_s, map_n, ofO_n]
    refine wp_forp (P := fun ρ => ∃ o3 o4 o5 o8 o9 o10 o11 o12 o13, ρ = [some (.lst (ns.map .int)), some (.int i), some (.ref c), o3, o4, o5, some (dSetup u), some (.lst ([] ++ unsU u)), o8, o9, o10, o11, o12, o13]) ?_ ?_
    · refine for_app (g := unsW u) [wLeft, wRight] D.str 16 (fun acc ρ => ∃ o3 o4 o5 o8 o9 o10 o11 o12 o13, ρ = [some (.lst (ns.map .int)), some (.int i), some (.ref c), o3, o4, o5, some (dSetup u), some (.lst acc), o8, o9, o10, o11, o12, o13]) [] (by simp only [ev_var, ev_lit, ev_con, ev_tup, ev_lst, ev_un, ev_bi, ev_ch, ev_not, ev_and, ev_or, ev_ite, ev_cut, ev_call, ev_cel, ev_at0, ev_meth, ev_dct, ev_get2, ev_idx, ev_lam, evL_nil, evL_cons, evO_nil, evO_val, evC_nil, evC_val, itr_val, itr_rng1, itr_rng2, itr_zip, ex_nil, ex_cons, ex_skip, ex_set, ex_own, ex_frz, ex_unp, ex_par, ex_app, ex_put, ex_bad, ex_rse, ex_rsf, ex_try, ex_paro, itr_enu, ex_ret, ex_drop, ex_ite, bnd_assoc, fit_non, fit_bl, fit_int, fit_str, fitL_nil, fitL_cons, eq_ii, eq_ss, eq_bb, List.any_cons, List.any_nil, Bool.or_false, Bool.and_self, Bool.and_true, Bool.true_and, slot0, slotS, ofO_some, some_bnd, pur_bnd, non_bnd, noE_pur, asBl_bl, bnd_ite, if_bl, if_true, if_false, Bool.false_eq_true, Bool.not_true, Bool.not_false, reduceIte, pyAt0, pyAt1, pyAt2, pyAt3, List.getElem?_cons_zero, List.getElem?_cons_succ, u_isStr_non, u_isStr_bl, u_isStr_int, u_isStr_str, u_isStr_tup, u_isStr_lst, u_isStr_own, u_isTup_non, u_isTup_bl, u_isTup_int, u_isTup_str, u_isTup_tup, u_isTup_lst, u_isTup_own, u_isInt_non, u_isInt_bl, u_isInt_int, u_isInt_str, u_isInt_tup, u_isInt_lst, u_isInt_own, u_isBl_non, u_isBl_bl, u_isBl_int, u_isBl_str, u_isBl_tup, u_isBl_lst, u_isBl_own, u_isLst_non, u_isLst_bl, u_isLst_int, u_isLst_str, u_isLst_tup, u_isLst_lst, u_isLst_own, ok_non, ok_bl, ok_int, ok_str, ok_tup, ok_lst, ok_own, ok_ref, u_len_str, u_len_tup, u_len_lst, u_len_own, u_int_int, u_neg_int, u_tuple_tup, u_list_tup, u_tuple_lst, u_list_lst, u_tuple_own, u_list_own, u_rev_tup, u_rev_lst, b_add_int, b_sub_int, b_add_tup, b_add_str, b_add_lst, b_mul_int, b_mod_int, b_fdiv_int, b_eq, b_ne, b_lt_int, b_lt_str, b_le_int, b_le_str, b_gt_int, b_gt_str, b_ge_int, b_ge_str, b_in_tup, b_in_lst, b_nin_tup, b_in_str, b_nin_str, b_is_bl, b_isn_bl, b_ix_tup, b_ix_lst, b_ix_str, eqO_int, eqO_str, eqO_bl, it_tup, it_lst, it_str, intOf_int, zip_tup, zip_lst, rng1_int, rng2_int, cut_tup, cut_lst, set0, setS, bindT1, bindT2, ownK_t, ownK_f, cut_own, b_in_own, b_nin_own, b_nin_lst, b_ix_own, bindP2, ok_pr, sq_lst, sq_own, sq_tup, idx_t, idx_l, idx_o, lam_pur, lam_err, try_pur, try_err, hdR_cons, raise_bnd, enu_tup, sets2, wipe1, wipe2, app_own, frz_own, lstK_lst, isStr_str, enu_lst, map_s, map_n, ofO_n]; rfl) ⟨_, _, _, _, _, _, _, _, _, rfl⟩ (by have := len_U o.g; simpa [unsU] using this) ?_
      rintro w hw acc _ hN ⟨o3, o4, o5, o8, o9, o10, o11, o12, o13, rfl⟩
      have hsd : isSd w := by simpa [isSd] using hw
      simp only [ev_var, ev_lit, ev_con, ev_tup, ev_lst, ev_un, ev_bi, ev_ch, ev_not, ev_and, ev_or, ev_ite, ev_cut, ev_call, ev_cel, ev_at0, ev_meth, ev_dct, ev_get2, ev_idx, ev_lam, evL_nil, evL_cons, evO_nil, evO_val, evC_nil, evC_val, itr_val, itr_rng1, itr_rng2, itr_zip, ex_nil, ex_cons, ex_skip, ex_set, ex_own, ex_frz, ex_unp, ex_par, ex_app, ex_put, ex_bad, ex_rse, ex_rsf, ex_try, ex_paro, itr_enu, ex_ret, ex_drop, ex_ite, bnd_assoc, fit_non, fit_bl, fit_int, fit_str, fitL_nil, fitL_cons, eq_ii, eq_ss, eq_bb, List.any_cons, List.any_nil, Bool.or_false, Bool.and_self, Bool.and_true, Bool.true_and, slot0, slotS, ofO_some, some_bnd, pur_bnd, non_bnd, noE_pur, asBl_bl, bnd_ite, if_bl, if_true, if_false, Bool.false_eq_true, Bool.not_true, Bool.not_false, reduceIte, pyAt0, pyAt1, pyAt2, pyAt3, List.getElem?_cons_zero, List.getElem?_cons_succ, u_isStr_non, u_isStr_bl, u_isStr_int, u_isStr_str, u_isStr_tup, u_isStr_lst, u_isStr_own, u_isTup_non, u_isTup_bl, u_isTup_int, u_isTup_str, u_isTup_tup, u_isTup_lst, u_isTup_own, u_isInt_non, u_isInt_bl, u_isInt_int, u_isInt_str, u_isInt_tup, u_isInt_lst, u_isInt_own, u_isBl_non, u_isBl_bl, u_isBl_int, u_isBl_str, u_isBl_tup, u_isBl_lst, u_isBl_own, u_isLst_non, u_isLst_bl, u_isLst_int, u_isLst_str, u_isLst_tup, u_isLst_lst, u_isLst_own, ok_non, ok_bl, ok_int, ok_str, ok_tup, ok_lst, ok_own, ok_ref, u_len_str, u_len_tup, u_len_lst, u_len_own, u_int_int, u_neg_int, u_tuple_tup, u_list_tup, u_tuple_lst, u_list_lst, u_tuple_own, u_list_own, u_rev_tup, u_rev_lst, b_add_int, b_sub_int, b_add_tup, b_add_str, b_add_lst, b_mul_int, b_mod_int, b_fdiv_int, b_eq, b_ne, b_lt_int, b_lt_str, b_le_int, b_le_str, b_gt_int, b_gt_str, b_ge_int, b_ge_str, b_in_tup, b_in_lst, b_nin_tup, b_in_str, b_nin_str, b_is_bl, b_isn_bl, b_ix_tup, b_ix_lst, b_ix_str, eqO_int, eqO_str, eqO_bl, it_tup, it_lst, it_str, intOf_int, zip_tup, zip_lst, rng1_int, rng2_int, cut_tup, cut_lst, set0, setS, bindT1, bindT2, ownK_t, ownK_f, cut_own, b_in_own, b_nin_own, b_nin_lst, b_ix_own, bindP2, ok_pr, sq_lst, sq_own, sq_tup, idx_t, idx_l, idx_o, lam_pur, lam_err, try_pur, try_err, hdR_cons, raise_bnd, enu_tup, sets2, wipe1, wipe2, app_own, frz_own, lstK_lst, isStr_str, enu_lst, map_s, map_n, ofO_n]
      have hro : rngOk (u.fs.length : Int) = true := rok (by omega) (by have := g.n2; omega)
      refine ex_forp (P := fun ρ => ∃ o4 o5 o8 o9 o10 o11 o12 o13, ρ = [some (.lst (ns.map .int)), some (.int i), some (.ref c), some (.str w), o4, o5, some (dSetup u), some (.lst (acc ++ (List.range u.fs.length).flatMap fun i => unsF u w i (u.fs.getD i ([], [])))), o8, o9, o10, o11, o12, o13]) ?_ ?_
      · refine for_app (g := fun i => unsF u w i (u.fs.getD i ([], []))) (List.range u.fs.length) (fun (i : Nat) => D.int (i : Int)) 16 (fun acc ρ => ∃ o4 o5 o8 o9 o10 o11 o12 o13, ρ = [some (.lst (ns.map .int)), some (.int i), some (.ref c), some (.str w), o4, o5, some (dSetup u), some (.lst acc), o8, o9, o10, o11, o12, o13]) acc (by simp only [a3, List.length_map, hro, rngLn, ev_var, ev_lit, ev_con, ev_tup, ev_lst, ev_un, ev_bi, ev_ch, ev_not, ev_and, ev_or, ev_ite, ev_cut, ev_call, ev_cel, ev_at0, ev_meth, ev_dct, ev_get2, ev_idx, ev_lam, evL_nil, evL_cons, evO_nil, evO_val, evC_nil, evC_val, itr_val, itr_rng1, itr_rng2, itr_zip, ex_nil, ex_cons, ex_skip, ex_set, ex_own, ex_frz, ex_unp, ex_par, ex_app, ex_put, ex_bad, ex_rse, ex_rsf, ex_try, ex_paro, itr_enu, ex_ret, ex_drop, ex_ite, bnd_assoc, fit_non, fit_bl, fit_int, fit_str, fitL_nil, fitL_cons, eq_ii, eq_ss, eq_bb, List.any_cons, List.any_nil, Bool.or_false, Bool.and_self, Bool.and_true, Bool.true_and, slot0, slotS, ofO_some, some_bnd, pur_bnd, non_bnd, noE_pur, asBl_bl, bnd_ite, if_bl, if_true, if_false, Bool.false_eq_true, Bool.not_true, Bool.not_false, reduceIte, pyAt0, pyAt1, pyAt2, pyAt3, List.getElem?_cons_zero, List.getElem?_cons_succ, u_isStr_non, u_isStr_bl, u_isStr_int, u_isStr_str, u_isStr_tup, u_isStr_lst, u_isStr_own, u_isTup_non, u_isTup_bl, u_isTup_int, u_isTup_str, u_isTup_tup, u_isTup_lst, u_isTup_own, u_isInt_non, u_isInt_bl, u_isInt_int, u_isInt_str, u_isInt_tup, u_isInt_lst, u_isInt_own, u_isBl_non, u_isBl_bl, u_isBl_int, u_isBl_str, u_isBl_tup, u_isBl_lst, u_isBl_own, u_isLst_non, u_isLst_bl, u_isLst_int, u_isLst_str, u_isLst_tup, u_isLst_lst, u_isLst_own, ok_non, ok_bl, ok_int, ok_str, ok_tup, ok_lst, ok_own, ok_ref, u_len_str, u_len_tup, u_len_lst, u_len_own, u_int_int, u_neg_int, u_tuple_tup, u_list_tup, u_tuple_lst, u_list_lst, u_tuple_own, u_list_own, u_rev_tup, u_rev_lst, b_add_int, b_sub_int, b_add_tup, b_add_str, b_add_lst, b_mul_int, b_mod_int, b_fdiv_int, b_eq, b_ne, b_lt_int, b_lt_str, b_le_int, b_le_str, b_gt_int, b_gt_str, b_ge_int, b_ge_str, b_in_tup, b_in_lst, b_nin_tup, b_in_str, b_nin_str, b_is_bl, b_isn_bl, b_ix_tup, b_ix_lst, b_ix_str, eqO_int, eqO_str, eqO_bl, it_tup, it_lst, it_str, intOf_int, zip_tup, zip_lst, rng1_int, rng2_int, cut_tup, cut_lst, set0, setS, bindT1, bindT2, ownK_t, ownK_f, cut_own, b_in_own, b_nin_own, b_nin_lst, b_ix_own, bindP2, ok_pr, sq_lst, sq_own, sq_tup, idx_t, idx_l, idx_o, lam_pur, lam_err, try_pur, try_err, hdR_cons, raise_bnd, enu_tup, sets2, wipe1, wipe2, app_own, frz_own, lstK_lst, isStr_str, enu_lst, map_s, map_n, ofO_n]) ⟨_, _, _, _, _, _, _, _, rfl⟩ (by rw [zip_flat]; exact hN) ?_
        rintro at_ hat acc _ hN ⟨o4, o5, o8, o9, o10, o11, o12, o13, rfl⟩
        have hlt := List.mem_range.mp hat
        obtain ⟨f, hf⟩ : ∃ f, u.fs[at_]? = some f := ⟨_, List.getElem?_eq_getElem hlt⟩
        have hgd : u.fs.getD at_ ([], []) = f := by rw [List.getD_eq_getElem?_getD, hf]; rfl
        rw [hgd] at hN ⊢
        have a4 : bop .ix (.tup (u.fs.map dField)) (.int (at_ : Int)) = some (dField f) := by rw [b_ix_tup]; exact at_mapN hf
        have a5 : dField f = .tup [.str f.1, .tup (f.2.map .str)] := rfl
        simp only [a3, a4, a5, ev_var, ev_lit, ev_con, ev_tup, ev_lst, ev_un, ev_bi, ev_ch, ev_not, ev_and, ev_or, ev_ite, ev_cut, ev_call, ev_cel, ev_at0, ev_meth, ev_dct, ev_get2, ev_idx, ev_lam, evL_nil, evL_cons, evO_nil, evO_val, evC_nil, evC_val, itr_val, itr_rng1, itr_rng2, itr_zip, ex_nil, ex_cons, ex_skip, ex_set, ex_own, ex_frz, ex_unp, ex_par, ex_app, ex_put, ex_bad, ex_rse, ex_rsf, ex_try, ex_paro, itr_enu, ex_ret, ex_drop, ex_ite, bnd_assoc, fit_non, fit_bl, fit_int, fit_str, fitL_nil, fitL_cons, eq_ii, eq_ss, eq_bb, List.any_cons, List.any_nil, Bool.or_false, Bool.and_self, Bool.and_true, Bool.true_and, slot0, slotS, ofO_some, some_bnd, pur_bnd, non_bnd, noE_pur, asBl_bl, bnd_ite, if_bl, if_true, if_false, Bool.false_eq_true, Bool.not_true, Bool.not_false, reduceIte, pyAt0, pyAt1, pyAt2, pyAt3, List.getElem?_cons_zero, List.getElem?_cons_succ, u_isStr_non, u_isStr_bl, u_isStr_int, u_isStr_str, u_isStr_tup, u_isStr_lst, u_isStr_own, u_isTup_non, u_isTup_bl, u_isTup_int, u_isTup_str, u_isTup_tup, u_isTup_lst, u_isTup_own, u_isInt_non, u_isInt_bl, u_isInt_int, u_isInt_str, u_isInt_tup, u_isInt_lst, u_isInt_own, u_isBl_non, u_isBl_bl, u_isBl_int, u_isBl_str, u_isBl_tup, u_isBl_lst, u_isBl_own, u_isLst_non, u_isLst_bl, u_isLst_int, u_isLst_str, u_isLst_tup, u_isLst_lst, u_isLst_own, ok_non, ok_bl, ok_int, ok_str, ok_tup, ok_lst, ok_own, ok_ref, u_len_str, u_len_tup, u_len_lst, u_len_own, u_int_int, u_neg_int, u_tuple_tup, u_list_tup, u_tuple_lst, u_list_lst, u_tuple_own, u_list_own, u_rev_tup, u_rev_lst, b_add_int, b_sub_int, b_add_tup, b_add_str, b_add_lst, b_mul_int, b_mod_int, b_fdiv_int, b_eq, b_ne, b_lt_int, b_lt_str, b_le_int, b_le_str, b_gt_int, b_gt_str, b_ge_int, b_ge_str, b_in_tup, b_in_lst, b_nin_tup, b_in_str, b_nin_str, b_is_bl, b_isn_bl, b_ix_tup, b_ix_lst, b_ix_str, eqO_int, eqO_str, eqO_bl, it_tup, it_lst, it_str, intOf_int, zip_tup, zip_lst, rng1_int, rng2_int, cut_tup, cut_lst, set0, setS, bindT1, bindT2, ownK_t, ownK_f, cut_own, b_in_own, b_nin_own, b_nin_lst, b_ix_own, bindP2, ok_pr, sq_lst, sq_own, sq_tup, idx_t, idx_l, idx_o, lam_pur, lam_err, try_pur, try_err, hdR_cons, raise_bnd, enu_tup, sets2, wipe1, wipe2, app_own, frz_own, lstK_lst, isStr_str, enu_lst, map_s, map_n, ofO_n]
        refine ex_forp (P := fun ρ => ∃ o4 o5 o11 o12 o13, ρ = [some (.lst (ns.map .int)), some (.int i), some (.ref c), some (.str w), o4, o5, some (dSetup u), some (.lst (acc ++ unsF u w at_ f)), some (.int (at_ : Int)), some (.str f.1), some (.tup (f.2.map .str)), o11, o12, o13]) ?_ ?_
        · refine for_app (g := fun v => if badv u at_ f w v then [tri f w v] else []) f.2 D.str 16 (fun acc ρ => ∃ o4 o5 o11 o12 o13, ρ = [some (.lst (ns.map .int)), some (.int i), some (.ref c), some (.str w), o4, o5, some (dSetup u), some (.lst acc), some (.int (at_ : Int)), some (.str f.1), some (.tup (f.2.map .str)), o11, o12, o13]) acc (by simp only [ev_var, ev_lit, ev_con, ev_tup, ev_lst, ev_un, ev_bi, ev_ch, ev_not, ev_and, ev_or, ev_ite, ev_cut, ev_call, ev_cel, ev_at0, ev_meth, ev_dct, ev_get2, ev_idx, ev_lam, evL_nil, evL_cons, evO_nil, evO_val, evC_nil, evC_val, itr_val, itr_rng1, itr_rng2, itr_zip, ex_nil, ex_cons, ex_skip, ex_set, ex_own, ex_frz, ex_unp, ex_par, ex_app, ex_put, ex_bad, ex_rse, ex_rsf, ex_try, ex_paro, itr_enu, ex_ret, ex_drop, ex_ite, bnd_assoc, fit_non, fit_bl, fit_int, fit_str, fitL_nil, fitL_cons, eq_ii, eq_ss, eq_bb, List.any_cons, List.any_nil, Bool.or_false, Bool.and_self, Bool.and_true, Bool.true_and, slot0, slotS, ofO_some, some_bnd, pur_bnd, non_bnd, noE_pur, asBl_bl, bnd_ite, if_bl, if_true, if_false, Bool.false_eq_true, Bool.not_true, Bool.not_false, reduceIte, pyAt0, pyAt1, pyAt2, pyAt3, List.getElem?_cons_zero, List.getElem?_cons_succ, u_isStr_non, u_isStr_bl, u_isStr_int, u_isStr_str, u_isStr_tup, u_isStr_lst, u_isStr_own, u_isTup_non, u_isTup_bl, u_isTup_int, u_isTup_str, u_isTup_tup, u_isTup_lst, u_isTup_own, u_isInt_non, u_isInt_bl, u_isInt_int, u_isInt_str, u_isInt_tup, u_isInt_lst, u_isInt_own, u_isBl_non, u_isBl_bl, u_isBl_int, u_isBl_str, u_isBl_tup, u_isBl_lst, u_isBl_own, u_isLst_non, u_isLst_bl, u_isLst_int, u_isLst_str, u_isLst_tup, u_isLst_lst, u_isLst_own, ok_non, ok_bl, ok_int, ok_str, ok_tup, ok_lst, ok_own, ok_ref, u_len_str, u_len_tup, u_len_lst, u_len_own, u_int_int, u_neg_int, u_tuple_tup, u_list_tup, u_tuple_lst, u_list_lst, u_tuple_own, u_list_own, u_rev_tup, u_rev_lst, b_add_int, b_sub_int, b_add_tup, b_add_str, b_add_lst, b_mul_int, b_mod_int, b_fdiv_int, b_eq, b_ne, b_lt_int, b_lt_str, b_le_int, b_le_str, b_gt_int, b_gt_str, b_ge_int, b_ge_str, b_in_tup, b_in_lst, b_nin_tup, b_in_str, b_nin_str, b_is_bl, b_isn_bl, b_ix_tup, b_ix_lst, b_ix_str, eqO_int, eqO_str, eqO_bl, it_tup, it_lst, it_str, intOf_int, zip_tup, zip_lst, rng1_int, rng2_int, cut_tup, cut_lst, set0, setS, bindT1, bindT2, ownK_t, ownK_f, cut_own, b_in_own, b_nin_own, b_nin_lst, b_ix_own, bindP2, ok_pr, sq_lst, sq_own, sq_tup, idx_t, idx_l, idx_o, lam_pur, lam_err, try_pur, try_err, hdR_cons, raise_bnd, enu_tup, sets2, wipe1, wipe2, app_own, frz_own, lstK_lst, isStr_str, enu_lst, map_s, map_n, ofO_n]) ⟨_, _, _, _, _, rfl⟩ hN ?_
          rintro v hv acc _ hN ⟨o4, o5, o11, o12, o13, rfl⟩
          simp only [bindT1, some_bnd]
          obtain ⟨ρ', e1, o12, o13, e2⟩ := inmost 53 o hsd hf hv hN (o0 := some (.lst (ns.map .int))) (o1 := some (.int i)) (o2 := some (.ref c)) (o4 := o4) (o5 := o5) (o12 := o12) (o13 := o13)
          exact ⟨ρ', e1, _, _, _, _, _, e2⟩
        · rintro _ ⟨o4, o5, o11, o12, o13, rfl⟩
          exact ⟨_, rfl, _, _, _, _, _, _, _, _, rfl⟩
      · rintro _ ⟨o4, o5, o8, o9, o10, o11, o12, o13, rfl⟩
        rw [zip_flat]
        exact ⟨_, rfl, _, _, _, _, _, _, _, _, _, rfl⟩
    · rintro _ ⟨o3, o4, o5, o8, o9, o10, o11, o12, o13, rfl⟩
      rw [List.nil_append]
      have q17 := r17s 53 o
      have q18 := r18s 52 o
      obtain ⟨f0, hf0⟩ : ∃ f, u.fs[0]? = some f := ⟨_, List.getElem?_eq_getElem g.n1⟩
      have hf0' : u.fs[(0 : Nat)]? = some f0 := hf0
      have a4 : bop .ix (.tup (u.fs.map dField)) (.int 0) = some (dField f0) := by rw [b_ix_tup]; exact at_mapN (i := 0) hf0
      have a5 : dField f0 = .tup [.str f0.1, .tup (f0.2.map .str)] := rfl
      have eb : ∀ b : Bool, eqO (.bl b) (.bl b) = some true := fun b => by cases b <;> rfl
      simp only [q17, q18, eq_uns, eq_unsn, eb, ok_setup, a3, a4, a5, ev_var, ev_lit, ev_con, ev_tup, ev_lst, ev_un, ev_bi, ev_ch, ev_not, ev_and, ev_or, ev_ite, ev_cut, ev_call, ev_cel, ev_at0, ev_meth, ev_dct, ev_get2, ev_idx, ev_lam, evL_nil, evL_cons, evO_nil, evO_val, evC_nil, evC_val, itr_val, itr_rng1, itr_rng2, itr_zip, ex_nil, ex_cons, ex_skip, ex_set, ex_own, ex_frz, ex_unp, ex_par, ex_app, ex_put, ex_bad, ex_rse, ex_rsf, ex_try, ex_paro, itr_enu, ex_ret, ex_drop, ex_ite, bnd_assoc, fit_non, fit_bl, fit_int, fit_str, fitL_nil, fitL_cons, eq_ii, eq_ss, eq_bb, List.any_cons, List.any_nil, Bool.or_false, Bool.and_self, Bool.and_true, Bool.true_and, slot0, slotS, ofO_some, some_bnd, pur_bnd, non_bnd, noE_pur, asBl_bl, bnd_ite, if_bl, if_true, if_false, Bool.false_eq_true, Bool.not_true, Bool.not_false, reduceIte, pyAt0, pyAt1, pyAt2, pyAt3, List.getElem?_cons_zero, List.getElem?_cons_succ, u_isStr_non, u_isStr_bl, u_isStr_int, u_isStr_str, u_isStr_tup, u_isStr_lst, u_isStr_own, u_isTup_non, u_isTup_bl, u_isTup_int, u_isTup_str, u_isTup_tup, u_isTup_lst, u_isTup_own, u_isInt_non, u_isInt_bl, u_isInt_int, u_isInt_str, u_isInt_tup, u_isInt_lst, u_isInt_own, u_isBl_non, u_isBl_bl, u_isBl_int, u_isBl_str, u_isBl_tup, u_isBl_lst, u_isBl_own, u_isLst_non, u_isLst_bl, u_isLst_int, u_isLst_str, u_isLst_tup, u_isLst_lst, u_isLst_own, ok_non, ok_bl, ok_int, ok_str, ok_tup, ok_lst, ok_own, ok_ref, u_len_str, u_len_tup, u_len_lst, u_len_own, u_int_int, u_neg_int, u_tuple_tup, u_list_tup, u_tuple_lst, u_list_lst, u_tuple_own, u_list_own, u_rev_tup, u_rev_lst, b_add_int, b_sub_int, b_add_tup, b_add_str, b_add_lst, b_mul_int, b_mod_int, b_fdiv_int, b_eq, b_ne, b_lt_int, b_lt_str, b_le_int, b_le_str, b_gt_int, b_gt_str, b_ge_int, b_ge_str, b_in_tup, b_in_lst, b_nin_tup, b_in_str, b_nin_str, b_is_bl, b_isn_bl, b_ix_tup, b_ix_lst, b_ix_str, eqO_int, eqO_str, eqO_bl, it_tup, it_lst, it_str, intOf_int, zip_tup, zip_lst, rng1_int, rng2_int, cut_tup, cut_lst, set0, setS, bindT1, bindT2, ownK_t, ownK_f, cut_own, b_in_own, b_nin_own, b_nin_lst, b_ix_own, bindP2, ok_pr, sq_lst, sq_own, sq_tup, idx_t, idx_l, idx_o, lam_pur, lam_err, try_pur, try_err, hdR_cons, raise_bnd, enu_tup, sets2, wipe1, wipe2, app_own, frz_own, lstK_lst, isStr_str, enu_lst, map_s, map_n, ofO_n]
      refine wp_forp (P := fun ρ => ∃ o3 o4 o5, ρ = [some (.lst (ns.map .int)), some (.int i), some (.ref c), o3, o4, o5, some (dSetup u), some (.lst (unsU u)), o8, some (.str f0.1), some (.tup (f0.2.map .str)), o11, o12, o13]) ?_ ?_
      · refine for_map (σ := Unit) (step := fun _ _ => ()) odds id (fun _ ρ => ∃ o3 o4 o5, ρ = [some (.lst (ns.map .int)), some (.int i), some (.ref c), o3, o4, o5, some (dSetup u), some (.lst (unsU u)), o8, some (.str f0.1), some (.tup (f0.2.map .str)), o11, o12, o13]) () (by simp only [ev_var, ev_lit, ev_con, ev_tup, ev_lst, ev_un, ev_bi, ev_ch, ev_not, ev_and, ev_or, ev_ite, ev_cut, ev_call, ev_cel, ev_at0, ev_meth, ev_dct, ev_get2, ev_idx, ev_lam, evL_nil, evL_cons, evO_nil, evO_val, evC_nil, evC_val, itr_val, itr_rng1, itr_rng2, itr_zip, ex_nil, ex_cons, ex_skip, ex_set, ex_own, ex_frz, ex_unp, ex_par, ex_app, ex_put, ex_bad, ex_rse, ex_rsf, ex_try, ex_paro, itr_enu, ex_ret, ex_drop, ex_ite, bnd_assoc, fit_non, fit_bl, fit_int, fit_str, fitL_nil, fitL_cons, eq_ii, eq_ss, eq_bb, List.any_cons, List.any_nil, Bool.or_false, Bool.and_self, Bool.and_true, Bool.true_and, slot0, slotS, ofO_some, some_bnd, pur_bnd, non_bnd, noE_pur, asBl_bl, bnd_ite, if_bl, if_true, if_false, Bool.false_eq_true, Bool.not_true, Bool.not_false, reduceIte, pyAt0, pyAt1, pyAt2, pyAt3, List.getElem?_cons_zero, List.getElem?_cons_succ, u_isStr_non, u_isStr_bl, u_isStr_int, u_isStr_str, u_isStr_tup, u_isStr_lst, u_isStr_own, u_isTup_non, u_isTup_bl, u_isTup_int, u_isTup_str, u_isTup_tup, u_isTup_lst, u_isTup_own, u_isInt_non, u_isInt_bl, u_isInt_int, u_isInt_str, u_isInt_tup, u_isInt_lst, u_isInt_own, u_isBl_non, u_isBl_bl, u_isBl_int, u_isBl_str, u_isBl_tup, u_isBl_lst, u_isBl_own, u_isLst_non, u_isLst_bl, u_isLst_int, u_isLst_str, u_isLst_tup, u_isLst_lst, u_isLst_own, ok_non, ok_bl, ok_int, ok_str, ok_tup, ok_lst, ok_own, ok_ref, u_len_str, u_len_tup, u_len_lst, u_len_own, u_int_int, u_neg_int, u_tuple_tup, u_list_tup, u_tuple_lst, u_list_lst, u_tuple_own, u_list_own, u_rev_tup, u_rev_lst, b_add_int, b_sub_int, b_add_tup, b_add_str, b_add_lst, b_mul_int, b_mod_int, b_fdiv_int, b_eq, b_ne, b_lt_int, b_lt_str, b_le_int, b_le_str, b_gt_int, b_gt_str, b_ge_int, b_ge_str, b_in_tup, b_in_lst, b_nin_tup, b_in_str, b_nin_str, b_is_bl, b_isn_bl, b_ix_tup, b_ix_lst, b_ix_str, eqO_int, eqO_str, eqO_bl, it_tup, it_lst, it_str, intOf_int, zip_tup, zip_lst, rng1_int, rng2_int, cut_tup, cut_lst, set0, setS, bindT1, bindT2, ownK_t, ownK_f, cut_own, b_in_own, b_nin_own, b_nin_lst, b_ix_own, bindP2, ok_pr, sq_lst, sq_own, sq_tup, idx_t, idx_l, idx_o, lam_pur, lam_err, try_pur, try_err, hdR_cons, raise_bnd, enu_tup, sets2, wipe1, wipe2, app_own, frz_own, lstK_lst, isStr_str, enu_lst, map_s, map_n, ofO_n]; rfl) ⟨_, _, _, rfl⟩ ?_
        rintro v hv _ _ ⟨o3, o4, o5, rfl⟩
        obtain ⟨h1, h2, h3, h4⟩ := odd_at hv
        have p1 := r16e1 53 (by omega) o (a := .non) (b := .non) h1 h3
        have p2 := r16e2 53 (by omega) o (.inl rfl) (b := .non) h1 (isWord_odd (names_at g) h2)
        have p3 := r16e3 53 (by omega) o (.inr rfl) hf0' h1 (isWord_odd (g.fs f0 (List.mem_of_getElem? hf0)).2.2.2 h2)
        simp only [id, bindT1, some_bnd, ok_setup, h4, p1, p2, p3, lam2, lam3, lam4, eqO_str, ev_var, ev_lit, ev_con, ev_tup, ev_lst, ev_un, ev_bi, ev_ch, ev_not, ev_and, ev_or, ev_ite, ev_cut, ev_call, ev_cel, ev_at0, ev_meth, ev_dct, ev_get2, ev_idx, ev_lam, evL_nil, evL_cons, evO_nil, evO_val, evC_nil, evC_val, itr_val, itr_rng1, itr_rng2, itr_zip, ex_nil, ex_cons, ex_skip, ex_set, ex_own, ex_frz, ex_unp, ex_par, ex_app, ex_put, ex_bad, ex_rse, ex_rsf, ex_try, ex_paro, itr_enu, ex_ret, ex_drop, ex_ite, bnd_assoc, fit_non, fit_bl, fit_int, fit_str, fitL_nil, fitL_cons, eq_ii, eq_ss, eq_bb, List.any_cons, List.any_nil, Bool.or_false, Bool.and_self, Bool.and_true, Bool.true_and, slot0, slotS, ofO_some, some_bnd, pur_bnd, non_bnd, noE_pur, asBl_bl, bnd_ite, if_bl, if_true, if_false, Bool.false_eq_true, Bool.not_true, Bool.not_false, reduceIte, pyAt0, pyAt1, pyAt2, pyAt3, List.getElem?_cons_zero, List.getElem?_cons_succ, u_isStr_non, u_isStr_bl, u_isStr_int, u_isStr_str, u_isStr_tup, u_isStr_lst, u_isStr_own, u_isTup_non, u_isTup_bl, u_isTup_int, u_isTup_str, u_isTup_tup, u_isTup_lst, u_isTup_own, u_isInt_non, u_isInt_bl, u_isInt_int, u_isInt_str, u_isInt_tup, u_isInt_lst, u_isInt_own, u_isBl_non, u_isBl_bl, u_isBl_int, u_isBl_str, u_isBl_tup, u_isBl_lst, u_isBl_own, u_isLst_non, u_isLst_bl, u_isLst_int, u_isLst_str, u_isLst_tup, u_isLst_lst, u_isLst_own, ok_non, ok_bl, ok_int, ok_str, ok_tup, ok_lst, ok_own, ok_ref, u_len_str, u_len_tup, u_len_lst, u_len_own, u_int_int, u_neg_int, u_tuple_tup, u_list_tup, u_tuple_lst, u_list_lst, u_tuple_own, u_list_own, u_rev_tup, u_rev_lst, b_add_int, b_sub_int, b_add_tup, b_add_str, b_add_lst, b_mul_int, b_mod_int, b_fdiv_int, b_eq, b_ne, b_lt_int, b_lt_str, b_le_int, b_le_str, b_gt_int, b_gt_str, b_ge_int, b_ge_str, b_in_tup, b_in_lst, b_nin_tup, b_in_str, b_nin_str, b_is_bl, b_isn_bl, b_ix_tup, b_ix_lst, b_ix_str, eqO_int, eqO_str, eqO_bl, it_tup, it_lst, it_str, intOf_int, zip_tup, zip_lst, rng1_int, rng2_int, cut_tup, cut_lst, set0, setS, bindT1, bindT2, ownK_t, ownK_f, cut_own, b_in_own, b_nin_own, b_nin_lst, b_ix_own, bindP2, ok_pr, sq_lst, sq_own, sq_tup, idx_t, idx_l, idx_o, lam_pur, lam_err, try_pur, try_err, hdR_cons, raise_bnd, enu_tup, sets2, wipe1, wipe2, app_own, frz_own, lstK_lst, isStr_str, enu_lst, map_s, map_n, ofO_n]
        exact ⟨_, rfl, _, _, _, rfl⟩
      · rintro _ ⟨o3, o4, o5, rfl⟩
        simp only [ev_var, ev_lit, ev_con, ev_tup, ev_lst, ev_un, ev_bi, ev_ch, ev_not, ev_and, ev_or, ev_ite, ev_cut, ev_call, ev_cel, ev_at0, ev_meth, ev_dct, ev_get2, ev_idx, ev_lam, evL_nil, evL_cons, evO_nil, evO_val, evC_nil, evC_val, itr_val, itr_rng1, itr_rng2, itr_zip, ex_nil, ex_cons, ex_skip, ex_set, ex_own, ex_frz, ex_unp, ex_par, ex_app, ex_put, ex_bad, ex_rse, ex_rsf, ex_try, ex_paro, itr_enu, ex_ret, ex_drop, ex_ite, bnd_assoc, fit_non, fit_bl, fit_int, fit_str, fitL_nil, fitL_cons, eq_ii, eq_ss, eq_bb, List.any_cons, List.any_nil, Bool.or_false, Bool.and_self, Bool.and_true, Bool.true_and, slot0, slotS, ofO_some, some_bnd, pur_bnd, non_bnd, noE_pur, asBl_bl, bnd_ite, if_bl, if_true, if_false, Bool.false_eq_true, Bool.not_true, Bool.not_false, reduceIte, pyAt0, pyAt1, pyAt2, pyAt3, List.getElem?_cons_zero, List.getElem?_cons_succ, u_isStr_non, u_isStr_bl, u_isStr_int, u_isStr_str, u_isStr_tup, u_isStr_lst, u_isStr_own, u_isTup_non, u_isTup_bl, u_isTup_int, u_isTup_str, u_isTup_tup, u_isTup_lst, u_isTup_own, u_isInt_non, u_isInt_bl, u_isInt_int, u_isInt_str, u_isInt_tup, u_isInt_lst, u_isInt_own, u_isBl_non, u_isBl_bl, u_isBl_int, u_isBl_str, u_isBl_tup, u_isBl_lst, u_isBl_own, u_isLst_non, u_isLst_bl, u_isLst_int, u_isLst_str, u_isLst_tup, u_isLst_lst, u_isLst_own, ok_non, ok_bl, ok_int, ok_str, ok_tup, ok_lst, ok_own, ok_ref, u_len_str, u_len_tup, u_len_lst, u_len_own, u_int_int, u_neg_int, u_tuple_tup, u_list_tup, u_tuple_lst, u_list_lst, u_tuple_own, u_list_own, u_rev_tup, u_rev_lst, b_add_int, b_sub_int, b_add_tup, b_add_str, b_add_lst, b_mul_int, b_mod_int, b_fdiv_int, b_eq, b_ne, b_lt_int, b_lt_str, b_le_int, b_le_str, b_gt_int, b_gt_str, b_ge_int, b_ge_str, b_in_tup, b_in_lst, b_nin_tup, b_in_str, b_nin_str, b_is_bl, b_isn_bl, b_ix_tup, b_ix_lst, b_ix_str, eqO_int, eqO_str, eqO_bl, it_tup, it_lst, it_str, intOf_int, zip_tup, zip_lst, rng1_int, rng2_int, cut_tup, cut_lst, set0, setS, bindT1, bindT2, ownK_t, ownK_f, cut_own, b_in_own, b_nin_own, b_nin_lst, b_ix_own, bindP2, ok_pr, sq_lst, sq_own, sq_tup, idx_t, idx_l, idx_o, lam_pur, lam_err, try_pur, try_err, hdR_cons, raise_bnd, enu_tup, sets2, wipe1, wipe2, app_own, frz_own, lstK_lst, isStr_str, enu_lst, map_s, map_n, ofO_n]
        exact ⟨_, _, _, _, _, _, _, _, _, _, _, _, _, rfl⟩
  · rintro _ s ⟨o1, o2, o3, o4, o5, o6, o7, o8, o9, o10, o11, o12, o13, rfl⟩
    simp only [ev_var, ev_lit, ev_con, ev_tup, ev_lst, ev_un, ev_bi, ev_ch, ev_not, ev_and, ev_or, ev_ite, ev_cut, ev_call, ev_cel, ev_at0, ev_meth, ev_dct, ev_get2, ev_idx, ev_lam, evL_nil, evL_cons, evO_nil, evO_val, evC_nil, evC_val, itr_val, itr_rng1, itr_rng2, itr_zip, ex_nil, ex_cons, ex_skip, ex_set, ex_own, ex_frz, ex_unp, ex_par, ex_app, ex_put, ex_bad, ex_rse, ex_rsf, ex_try, ex_paro, itr_enu, ex_ret, ex_drop, ex_ite, bnd_assoc, fit_non, fit_bl, fit_int, fit_str, fitL_nil, fitL_cons, eq_ii, eq_ss, eq_bb, List.any_cons, List.any_nil, Bool.or_false, Bool.and_self, Bool.and_true, Bool.true_and, slot0, slotS, ofO_some, some_bnd, pur_bnd, non_bnd, noE_pur, asBl_bl, bnd_ite, if_bl, if_true, if_false, Bool.false_eq_true, Bool.not_true, Bool.not_false, reduceIte, pyAt0, pyAt1, pyAt2, pyAt3, List.getElem?_cons_zero, List.getElem?_cons_succ, u_isStr_non, u_isStr_bl, u_isStr_int, u_isStr_str, u_isStr_tup, u_isStr_lst, u_isStr_own, u_isTup_non, u_isTup_bl, u_isTup_int, u_isTup_str, u_isTup_tup, u_isTup_lst, u_isTup_own, u_isInt_non, u_isInt_bl, u_isInt_int, u_isInt_str, u_isInt_tup, u_isInt_lst, u_isInt_own, u_isBl_non, u_isBl_bl, u_isBl_int, u_isBl_str, u_isBl_tup, u_isBl_lst, u_isBl_own, u_isLst_non, u_isLst_bl, u_isLst_int, u_isLst_str, u_isLst_tup, u_isLst_lst, u_isLst_own, ok_non, ok_bl, ok_int, ok_str, ok_tup, ok_lst, ok_own, ok_ref, u_len_str, u_len_tup, u_len_lst, u_len_own, u_int_int, u_neg_int, u_tuple_tup, u_list_tup, u_tuple_lst, u_list_lst, u_tuple_own, u_list_own, u_rev_tup, u_rev_lst, b_add_int, b_sub_int, b_add_tup, b_add_str, b_add_lst, b_mul_int, b_mod_int, b_fdiv_int, b_eq, b_ne, b_lt_int, b_lt_str, b_le_int, b_le_str, b_gt_int, b_gt_str, b_ge_int, b_ge_str, b_in_tup, b_in_lst, b_nin_tup, b_in_str, b_nin_str, b_is_bl, b_isn_bl, b_ix_tup, b_ix_lst, b_ix_str, eqO_int, eqO_str, eqO_bl, it_tup, it_lst, it_str, intOf_int, zip_tup, zip_lst, rng1_int, rng2_int, cut_tup, cut_lst, set0, setS, bindT1, bindT2, ownK_t, ownK_f, cut_own, b_in_own, b_nin_own, b_nin_lst, b_ix_own, bindP2, ok_pr, sq_lst, sq_own, sq_tup, idx_t, idx_l, idx_o, lam_pur, lam_err, try_pur, try_err, hdR_cons, raise_bnd, enu_tup, sets2, wipe1, wipe2, app_own, frz_own, lstK_lst, isStr_str, enu_lst, map_s, map_n, ofO_n]
    exact rfl
theorem plain (ns : List Int) (hn : ns.length ≤ 63) (s0 : Store) : ∃ s', runF T.fns T.C 60 27 [.lst (ns.map .int)] s0 = some (.ok (.bl true), s') := by
  obtain ⟨a, s', e, rfl⟩ := wp_out (law_ ns hn s0)
  exact ⟨s', e⟩
end K04

namespace K04
open PySem PySem.Spec PyProof.Rows L2 Ev
abbrev R : PySem.W.OpenRow := PySem.W.OpenLaw.row PySem.Challenge.rw_twohooks_k04_what_habits_make_of_values
abbrev hk : PySem.W.Hook := hookX 5 T fn
def ob (s : PySem.W.SharedT) : AlX := obsXG 5 T fn (HandSHeadRun.getT s)
theorem ob_eq (s : PySem.W.SharedT) : ob s = hk.obs s.abs := obsXG_eq (HandSHeadRun.getT_eq s)
def loose0 : List Str := ["HookError", "InvalidSetup", "InvalidSide", "InvalidField", "InvalidValue", "SIDES", "TELLS", "ANSWERS", "SCOPES", "KINDS", "MOST_RECORDS", "is_label", "rises", "is_field", "are_fields", "are_habits", "is_word", "is_side", "is_way", "is_setup", "need_setup", "need_side", "place_of", "need_value", "other_side", "part_of", "stored", "echoes", "unsuited", "suits"]
def loose1 : List Str := ["_law_hand", "_law_of", "_law_any", "_law_side", "_law_setup", "_law_kept", "_law_across", "_law_echoes", "_law_word"]
def loose : List Str := loose0 ++ loose1
theorem run (w : World) : HandSHeadRun.RunEq R (PySem.W.view R.prog [43]) hk ob 6000 loose w := by
  intro os
  kernel_rfl
theorem facts {P : Program} {w : World} {K : PySem.W.Frag} {h : Heap} {mg : Str → Option Value} {f : Addr} (X : K.In h) (G : h.Ns mainGlobals mg) (hfa : mg ("law" : Str) = some (.ref f)) (c : SaysX T fn K) :
    ∃ fd : FuncData, (∀ (s : Shared) (v : Value), BindsTo s fd ⟨[v], []⟩ [("script", v)]) ∧ ∀ base : Heap, K.In base → base.Ns mainGlobals mg → (∀ p ∈ tabsC K, LamX.TabB base mg p.1 p.2) → FnOk P w K mg base (L2.CX P w) (3 * 60) f fd ["script"] (spF K (cvOf T K) (runF T.fns T.C 60 27) 1) := by
  obtain ⟨fdt, F⟩ := c.d.def_ 27 (d := d27) rfl
  have e := hfa.symm.trans (c.glo X G (i := 27) (fd := f27) rfl)
  cases e
  have b := FunD.bindsA (ps := ["script"]) F fun _ _ _ _ _ _ us hl => match us, hl with | [_], _ => rfl
  exact ⟨fdt, fun s v => b s [v] rfl, fun base _ _ hT => tab_ok (at_ X G c) (c.con X G) (c.blt X G) (c.exc X G) (tt_ X G c) hT 60 27 f27 rfl _ _ _ ⟨c.glo X G (i := 27) (fd := f27) rfl, F.bindsN fun _ _ _ _ _ _ us hl => match us, hl with | [_], _ => rfl, rfl, ⟨_, _, _, _, F, ⟨rfl, rfl, rfl, by decide +kernel, rfl, by decide +kernel, by decide +kernel⟩, by decide +kernel⟩, fun z => c.lam (i := 27) (fd := f27) rfl rfl⟩⟩
end K04
open PySem PySem.W PySem.Calls PyProof.Rows
theorem PySem.Challenge.cw_twohooks_k04_what_habits_make_of_values_holds : PySem.Challenge.rw_twohooks_k04_what_habits_make_of_values.Holds := by
  w_on; o_law
  refine HandSHeadRun.head_any (r := OpenLaw.row PySem.Challenge.rw_twohooks_k04_what_habits_make_of_values) (q := view (OpenLaw.row PySem.Challenge.rw_twohooks_k04_what_habits_make_of_values).prog [43]) (H := K04.hk) (ob := K04.ob) (M := 6000) (loose := K04.loose) (d := HandSHeadRun.topDef (OpenLaw.row PySem.Challenge.rw_twohooks_k04_what_habits_make_of_values).prog 43) (kwd := []) K04.ob_eq
    (by kernel_rfl) (fun s => by kernel_rfl) K04.run (by kernel_rfl) (by kernel_rfl) (by kernel_rfl) (by rfl) (by first | assumption | decide +kernel) (by decide +kernel) ⟨rfl, rfl, rfl, rfl, rfl, by decide +kernel⟩ ?hw ?hc
  case hw => w_witness2
  case hc =>
    refine Ev.walk_ev (l := PySem.Challenge.rw_twohooks_k04_what_habits_make_of_values) (n := 63) (k := 3 * 60) (x := "script") (CX := fun w => L2.CX (PySem.Challenge.rw_twohooks_k04_what_habits_make_of_values).prog w) rfl (by decide) (by kernel_rfl) ⟨rfl, by decide, by decide⟩ ?F (fun _ _ _ _ _ z => Ev.cx_none z)
    intro w mg fa h Y G hmg0
    obtain ⟨K, KX, c, t⟩ := Y
    have hmg : mg ("law" : PySem.Str) = some (.ref fa) := by
      have e : (HandSHeadRun.topDef (OpenLaw.row PySem.Challenge.rw_twohooks_k04_what_habits_make_of_values).prog 43).name = ("law" : PySem.Str) := by kernel_rfl
      rw [← e]
      exact hmg0
    obtain ⟨fd, hb, hF⟩ := K04.facts (P := (PySem.Challenge.rw_twohooks_k04_what_habits_make_of_values).prog) (w := w) KX G hmg c
    exact ⟨K, KX, fd, Ev.tabsC K, _, t, Ev.tabs_none, c.hd KX, hb, fun H a ns hl _ hT hS => Ev.sp_law c K04.plain H a ns hl hT hS, hF⟩
