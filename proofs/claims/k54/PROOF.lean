import PyProof.Rows.All
import Wide.All
import OpenK.AllK
import Wide.FinOn
import PySem.Challenge.RW_allbysteps_k54_whole_bands
import HandS.ForMost
import HandS.Flow
import HandS.Deep
import HandS.Conv
import HandS.EndBits
import HandS.Wide
import HandS.TupAny
import HandS.TupMul
import HandS.IsInst
import HandS.DictTup
import HandS.Style
import HandS.TupLen
import HandS.Gcd
import HandS.DictComp
import HandS.Sort
import HandS.More
import KE.SortData
import KE.DataCmp
import KE.DataMinMax
import PyProof.ReprRoads
import KE.KDictPairs
import KE.GoesEnum
import HandS.Star
import HandS.Zip
set_option Elab.async false
set_option linter.all false
set_option maxRecDepth 100000
namespace DL
open PySem PySem.Spec PyProof.Rows L2

/-! ## data and how a heap bears it -/
def kD : Key → PyData
  | .inl i => .int i
  | .inr x => .str x

/-- marks a dict whose keys are tuples -/
def tagT : PyData × PyData := (.list [], .none)
mutual
inductive Rp (K : PySem.W.Frag) (H : Hp) : V → PyData → Prop
  | non : Rp K H .non .none
  | bl (b : Bool) : Rp K H (.bl b) (.bool b)
  | int (i : Int) : Rp K H (.int i) (.int i)
  | str (x : Str) : Rp K H (.str x) (.str x)
  | lst {a : Addr} {xs : List V} {ds : List PyData} : H a = some (.lst xs) → RpAll K H xs ds → Rp K H (.ref a) (.list ds)
  | tup {a : Addr} {xs : List V} {ds : List PyData} : H a = some (.tup xs) → RpAll K H xs ds → Rp K H (.ref a) (.tuple ds)
  | dK {a : Addr} {kvs : List (Key × V)} {ds : List (PyData × PyData)} : H a = some (.dK kvs) → RpKv K H kvs ds → Rp K H (.ref a) (.dict ds)
  | dT {a : Addr} {kvs : List (List Key × V)} {ds : List (PyData × PyData)} : H a = some (.dT kvs) → RpTv K H kvs ds → Rp K H (.ref a) (.dict (tagT :: ds))
inductive RpAll (K : PySem.W.Frag) (H : Hp) : List V → List PyData → Prop
  | nil : RpAll K H [] []
  | cons {v : V} {vs : List V} {d : PyData} {ds : List PyData} : Rp K H v d → RpAll K H vs ds → RpAll K H (v :: vs) (d :: ds)
inductive RpKv (K : PySem.W.Frag) (H : Hp) : List (Key × V) → List (PyData × PyData) → Prop
  | nil : RpKv K H [] []
  | cons {k : Key} {v : V} {vs : List (Key × V)} {d : PyData} {ds : List (PyData × PyData)} : Rp K H v d → RpKv K H vs ds → RpKv K H ((k, v) :: vs) ((kD k, d) :: ds)
inductive RpTv (K : PySem.W.Frag) (H : Hp) : List (List Key × V) → List (PyData × PyData) → Prop
  | nil : RpTv K H [] []
  | cons {k : List Key} {v : V} {vs : List (List Key × V)} {d : PyData} {ds : List (PyData × PyData)} : Rp K H v d → RpTv K H vs ds → RpTv K H ((k, v) :: vs) ((.tuple (k.map kD), d) :: ds)
end

section
variable {K : PySem.W.Frag} {H H' : Hp}
theorem same_seqT {a : Addr} {xs : List V} (e : Same H H') (h : SqT K H a xs) : SqT K H' a xs := by
  rcases h with (h | ⟨o, h⟩) | h
  · exact .inl (.inl (e _ _ h))
  · exact .inl (.inr ⟨o, e _ _ h⟩)
  · exact .inr h
mutual
theorem Rp.mono (e : Same H H') : ∀ {v : V} {d : PyData}, Rp K H v d → Rp K H' v d
  | _, _, .non => .non
  | _, _, .bl b => .bl b
  | _, _, .int i => .int i
  | _, _, .str x => .str x
  | _, _, .lst h r => .lst (e _ _ h) (RpAll.mono e r)
  | _, _, .tup h r => .tup (e _ _ h) (RpAll.mono e r)
  | _, _, .dK h r => .dK (e _ _ h) (RpKv.mono e r)
  | _, _, .dT h r => .dT (e _ _ h) (RpTv.mono e r)
theorem RpAll.mono (e : Same H H') : ∀ {vs : List V} {ds : List PyData}, RpAll K H vs ds → RpAll K H' vs ds
  | _, _, .nil => .nil
  | _, _, .cons a b => .cons (Rp.mono e a) (RpAll.mono e b)
theorem RpKv.mono (e : Same H H') : ∀ {vs : List (Key × V)} {ds : List (PyData × PyData)}, RpKv K H vs ds → RpKv K H' vs ds
  | _, _, .nil => .nil
  | _, _, .cons a b => .cons (Rp.mono e a) (RpKv.mono e b)
theorem RpTv.mono (e : Same H H') : ∀ {vs : List (List Key × V)} {ds : List (PyData × PyData)}, RpTv K H vs ds → RpTv K H' vs ds
  | _, _, .nil => .nil
  | _, _, .cons a b => .cons (Rp.mono e a) (RpTv.mono e b)
end
theorem RpAll.length {vs : List V} {ds : List PyData} (r : RpAll K H vs ds) : vs.length = ds.length := by
  induction vs generalizing ds with
  | nil => cases r; rfl
  | cons v vs ih => cases r with | cons a b => simp [ih b]
theorem RpAll.get {vs : List V} {ds : List PyData} (r : RpAll K H vs ds) {i : Nat} {d : PyData} (h : ds[i]? = some d) : ∃ v, vs[i]? = some v ∧ Rp K H v d := by
  induction vs generalizing ds i with
  | nil => cases r; simp at h
  | cons v vs ih =>
    cases r with
    | cons a b =>
      cases i with
      | zero => simp at h; subst h; exact ⟨v, rfl, a⟩
      | succ i => simp at h; obtain ⟨w, e, q⟩ := ih b h; exact ⟨w, by simpa using e, q⟩
theorem RpAll.getV {vs : List V} {ds : List PyData} (r : RpAll K H vs ds) {i : Nat} {v : V} (h : vs[i]? = some v) : ∃ d, ds[i]? = some d ∧ Rp K H v d := by
  induction vs generalizing ds i with
  | nil => simp at h
  | cons w vs ih =>
    cases r with
    | cons a b =>
      cases i with
      | zero => simp at h; subst h; exact ⟨_, rfl, a⟩
      | succ i => simp at h; obtain ⟨e, q, r⟩ := ih b h; exact ⟨e, by simpa using q, r⟩
theorem RpAll.append {vs ws : List V} {ds es : List PyData} (r : RpAll K H vs ds) (q : RpAll K H ws es) : RpAll K H (vs ++ ws) (ds ++ es) := by
  induction vs generalizing ds with
  | nil => cases r; exact q
  | cons v vs ih => cases r with | cons a b => exact .cons a (ih b)
theorem RpAll.take {vs : List V} {ds : List PyData} (r : RpAll K H vs ds) (n : Nat) : RpAll K H (vs.take n) (ds.take n) := by
  induction n generalizing vs ds with
  | zero => exact .nil
  | succ n ih =>
    cases r with
    | nil => exact .nil
    | cons a b => exact .cons a (ih b)
theorem RpAll.drop {vs : List V} {ds : List PyData} (r : RpAll K H vs ds) (n : Nat) : RpAll K H (vs.drop n) (ds.drop n) := by
  induction n generalizing vs ds with
  | zero => exact r
  | succ n ih =>
    cases r with
    | nil => exact .nil
    | cons a b => exact ih b
theorem RpAll.reverse {vs : List V} {ds : List PyData} (r : RpAll K H vs ds) : RpAll K H vs.reverse ds.reverse := by
  induction vs generalizing ds with
  | nil => cases r; exact .nil
  | cons v vs ih =>
    cases r with
    | cons a b => rw [List.reverse_cons, List.reverse_cons]; exact (ih b).append (.cons a .nil)
theorem RpAll.set {vs : List V} {ds : List PyData} (r : RpAll K H vs ds) {v : V} {d : PyData} (q : Rp K H v d) (n : Nat) : RpAll K H (vs.set n v) (ds.set n d) := by
  induction vs generalizing ds n with
  | nil => cases r; exact .nil
  | cons w vs ih =>
    cases r with
    | cons a b =>
      cases n with
      | zero => exact .cons q b
      | succ n => exact .cons a (ih b n)
theorem RpAll.rep {v : V} {d : PyData} (q : Rp K H v d) (n : Nat) : RpAll K H (List.replicate n v) (List.replicate n d) := by
  induction n with
  | zero => exact .nil
  | succ n ih => exact .cons q ih
theorem RpAll.flat {vs : List V} {ds : List PyData} (q : RpAll K H vs ds) (n : Nat) : RpAll K H (List.replicate n vs).flatten (List.replicate n ds).flatten := by
  induction n with
  | zero => exact .nil
  | succ n ih => rw [List.replicate_succ, List.replicate_succ, List.flatten_cons, List.flatten_cons]; exact q.append ih
theorem RpAll.ints (ns : List Int) : RpAll K H (ns.map V.int) (ns.map PyData.int) := by
  induction ns with
  | nil => exact .nil
  | cons n ns ih => exact .cons (.int n) ih

theorem rp_key {k : Key} {v : V} (h : Rp K H v (kD k)) : v = kV k := by
  cases k with
  | inl i => cases h; rfl
  | inr x => cases h; rfl
theorem rp_keys : ∀ {ks : List Key} {vs : List V}, RpAll K H vs (ks.map kD) → vs = ks.map kV
  | [], _, h => by cases h; rfl
  | k :: ks, _, h => by
    cases h with
    | cons a b => rw [rp_key a, rp_keys b]; rfl

/-! ## no dict within: HandS's own reading -/
mutual
def noD : PyData → Bool
  | .dict _ => false
  | .list xs => noDs xs
  | .tuple xs => noDs xs
  | _ => true
def noDs : List PyData → Bool
  | [] => true
  | d :: ds => noD d && noDs ds
end
mutual
theorem Rp.dp : ∀ {v : V} {d : PyData}, Rp K H v d → noD d = true → Dp K H v d
  | _, _, .non, _ => .non
  | _, _, .bl b, _ => .bl b
  | _, _, .int i, _ => .int i
  | _, _, .str x, _ => .str x
  | _, _, .lst h r, q => .lst (.inl (.inl h)) (RpAll.dp r (by unfold noD at q; exact q))
  | _, _, .tup h r, q => .tup (.inl (.inl h)) (RpAll.dp r (by unfold noD at q; exact q))
  | _, _, .dK h r, q => by unfold noD at q; cases q
  | _, _, .dT h r, q => by unfold noD at q; cases q
theorem RpAll.dp : ∀ {vs : List V} {ds : List PyData}, RpAll K H vs ds → noDs ds = true → DpAll K H vs ds
  | _, _, .nil, _ => .nil
  | _, _, .cons a b, q => by
    unfold noDs at q
    rw [Bool.and_eq_true] at q
    exact .cons (Rp.dp a q.1) (RpAll.dp b q.2)
end
end

/-! ## growing heaps -/
/-- F: what never changes any more; G: what stands in the meantime -/
def NT (o : HO) : Prop := ∀ xs, o ≠ .tup xs
structure Ext (F G F' G' : Hp) : Prop where
  f : Same F F'
  g : Same G G'
  fg : Same F' G'
  old : ∀ a o, G a = some o → NT o → F' a = F a
theorem Ext.refl {F G : Hp} (h : Same F G) : Ext F G F G := ⟨Same.refl _, Same.refl _, h, fun _ _ _ _ => rfl⟩
theorem Ext.trans {F G F1 G1 F2 G2 : Hp} (a : Ext F G F1 G1) (b : Ext F1 G1 F2 G2) : Ext F G F2 G2 :=
  ⟨a.f.trans b.f, a.g.trans b.g, b.fg, fun c o h n => (b.old c o (a.g c o h) n).trans (a.old c o h n)⟩
theorem same_new {H : Hp} {p : Addr} {o : HO} (h : H p = none) : Same H (upd H p o) := fun b x e => by
  rw [upd_ne (ne_of_none e h)]
  exact e
theorem Ext.new {F H : Hp} {p : Addr} {o : HO} (h : Same F H) (n : H p = none) : Ext F H (upd F p o) (upd H p o) := by
  have nf : F p = none := h.free n
  refine ⟨same_new nf, same_new n, fun b x e => ?_, fun a u e _ => ?_⟩
  · by_cases hb : b = p
    · subst hb; rw [upd_same] at e ⊢; exact e
    · rw [upd_ne hb] at e ⊢; exact h b x e
  · rw [upd_ne (ne_of_none e n)]
/-- new in the whole, not (yet) among what never changes -/
theorem Ext.alloc {F H : Hp} {p : Addr} {o : HO} (h : Same F H) (n : H p = none) : Ext F H F (upd H p o) :=
  ⟨Same.refl _, same_new n, h.trans (same_new n), fun _ _ _ _ => rfl⟩
end DL

set_option Elab.async false
set_option linter.all false
set_option maxRecDepth 100000
namespace DL
open PySem PySem.Spec PyProof.Rows L2

/-! ## hidden state -/
structure SrcI where
  S : Type
  hid : Addr → Bool
  ok : S → Hp → Prop
  loc : ∀ {s : S} {H H' : Hp}, (∀ a, hid a = true → H' a = H a) → ok s H → ok s H'
  trk : ∀ {s : S} {H : Hp} {a : Addr}, ok s H → hid a = true → ∃ o, H a = some o ∧ NT o
theorem SrcI.mono (I : SrcI) {s : I.S} {H H' : Hp} (e : Same H H') (o : I.ok s H) : I.ok s H' := I.loc (fun a h => by
  obtain ⟨u, hu, _⟩ := I.trk o h
  rw [e _ _ hu, hu]) o
def SrcI.mask (I : SrcI) (H : Hp) : Hp := fun a => if I.hid a then none else H a
theorem mask_le (I : SrcI) (H : Hp) : Same (I.mask H) H := fun a o e => by
  unfold SrcI.mask at e
  split at e
  · cases e
  · exact e
theorem mask_mono (I : SrcI) {H H' : Hp} (h : Same H H') : Same (I.mask H) (I.mask H') := fun a o e => by
  unfold SrcI.mask at e ⊢
  split at e
  · cases e
  · rename_i q; rw [if_neg q]; exact h _ _ e
theorem mask_of (I : SrcI) {H : Hp} {a : Addr} (h : I.hid a = false) : I.mask H a = H a := by
  unfold SrcI.mask; rw [h]; rfl
def unitI : SrcI := ⟨Unit, fun _ => false, fun _ _ => True, fun _ _ => trivial, fun _ h => by cases h⟩
theorem mask_unit (H : Hp) : unitI.mask H = H := by funext a; rfl

abbrev Env := List (Option PyData)
structure Cfg where
  I : SrcI
  mu : Nat → Bool
  fx : List (Nat × V)
abbrev Cfg.mask (c : Cfg) : Hp → Hp := c.I.mask

/-! ## one node, its children among what never changes -/
def Node (K : PySem.W.Frag) (F : Hp) (o : HO) (d : PyData) : Prop :=
  (∃ xs ds, o = .lst xs ∧ d = .list ds ∧ RpAll K F xs ds) ∨ (∃ kvs ds, o = .dK kvs ∧ d = .dict ds ∧ RpKv K F kvs ds) ∨ (∃ kvs ds, o = .dT kvs ∧ d = .dict (tagT :: ds) ∧ RpTv K F kvs ds)
def Sh (K : PySem.W.Frag) (F G : Hp) (v : V) (d : PyData) : Prop := Rp K F v d ∨ ∃ p o, v = .ref p ∧ G p = some o ∧ Node K F o d
inductive ShAll (K : PySem.W.Frag) (F G : Hp) : List V → List PyData → Prop
  | nil : ShAll K F G [] []
  | cons {v : V} {vs : List V} {d : PyData} {ds : List PyData} : Sh K F G v d → ShAll K F G vs ds → ShAll K F G (v :: vs) (d :: ds)
def Own (K : PySem.W.Frag) (G0 F G : Hp) (v : V) (d : PyData) : Prop := ∃ p o, v = .ref p ∧ G0 p = none ∧ F p = none ∧ G p = some o ∧ Node K F o d
/-- a new object -/
def Nw (K : PySem.W.Frag) (G0 F G : Hp) (v : V) (d : PyData) : Prop := ∃ p o, v = .ref p ∧ G0 p = none ∧ F p = none ∧ G p = some o ∧ Node K F o d
theorem Nw.back {K : PySem.W.Frag} {G0 G1 F G : Hp} {v : V} {d : PyData} (s : Same G0 G1) (h : Nw K G1 F G v d) : Nw K G0 F G v d := by
  obtain ⟨p, o, e, n, r⟩ := h
  exact ⟨p, o, e, s.free n, r⟩
section
variable {K : PySem.W.Frag} {F G H F' G' : Hp} {v : V} {d : PyData} {o : HO}
theorem Node.nt (h : Node K F o d) : NT o := fun xs e => by
  rcases h with ⟨_, _, z, _⟩ | ⟨_, _, z, _⟩ | ⟨_, _, z, _⟩ <;> (rw [e] at z; cases z)
theorem Node.mono (e : Same F F') (h : Node K F o d) : Node K F' o d := by
  rcases h with ⟨xs, ds, a, b, r⟩ | ⟨xs, ds, a, b, r⟩ | ⟨xs, ds, a, b, r⟩
  · exact .inl ⟨xs, ds, a, b, RpAll.mono e r⟩
  · exact .inr (.inl ⟨xs, ds, a, b, RpKv.mono e r⟩)
  · exact .inr (.inr ⟨xs, ds, a, b, RpTv.mono e r⟩)
theorem Node.rp {p : Addr} (h : Node K F o d) (e : F p = some o) : Rp K F (.ref p) d := by
  rcases h with ⟨xs, ds, rfl, rfl, r⟩ | ⟨xs, ds, rfl, rfl, r⟩ | ⟨xs, ds, rfl, rfl, r⟩
  · exact .lst e r
  · exact .dK e r
  · exact .dT e r
theorem Sh.mono (h : Sh K F G v d) (f : Same F F') (g : Same G G') : Sh K F' G' v d := by
  rcases h with h | ⟨p, o, e, q, n⟩
  · exact .inl (h.mono f)
  · exact .inr ⟨p, o, e, g _ _ q, n.mono f⟩
theorem ShAll.mono {vs : List V} {ds : List PyData} (h : ShAll K F G vs ds) (f : Same F F') (g : Same G G') : ShAll K F' G' vs ds := by
  induction vs generalizing ds with
  | nil => cases h; exact .nil
  | cons v vs ih => cases h with | cons a b => exact .cons (a.mono f g) (ih b)
theorem RpAll.sh {vs : List V} {ds : List PyData} (h : RpAll K F vs ds) : ShAll K F G vs ds := by
  induction vs generalizing ds with
  | nil => cases h; exact .nil
  | cons v vs ih => cases h with | cons a b => exact .cons (.inl a) (ih b)
/-- deep, in the whole -/
theorem Sh.rp (h : Sh K F G v d) (fg : Same F G) : Rp K G v d := by
  rcases h with h | ⟨p, o, rfl, q, n⟩
  · exact h.mono fg
  · exact (n.mono fg).rp q
theorem Sh.list {ds : List PyData} (h : Sh K F G v (.list ds)) (fg : Same F G) : ∃ a xs, v = .ref a ∧ G a = some (.lst xs) ∧ RpAll K F xs ds := by
  rcases h with h | ⟨p, o, rfl, q, n⟩
  · cases h with | lst s r => exact ⟨_, _, rfl, fg _ _ s, r⟩
  · rcases n with ⟨xs, ds', rfl, e, r⟩ | ⟨_, _, _, e, _⟩ | ⟨_, _, _, e, _⟩
    · cases e; exact ⟨p, xs, rfl, q, r⟩
    · cases e
    · cases e
theorem Sh.tuple {ds : List PyData} (h : Sh K F G v (.tuple ds)) : ∃ a xs, v = .ref a ∧ F a = some (.tup xs) ∧ RpAll K F xs ds := by
  rcases h with h | ⟨p, o, rfl, q, n⟩
  · cases h with | tup s r => exact ⟨_, _, rfl, s, r⟩
  · rcases n with ⟨_, _, _, e, _⟩ | ⟨_, _, _, e, _⟩ | ⟨_, _, _, e, _⟩ <;> cases e
theorem Sh.int {i : Int} (h : Sh K F G v (.int i)) : v = .int i := by
  rcases h with h | ⟨p, o, rfl, q, n⟩
  · cases h; rfl
  · rcases n with ⟨_, _, _, e, _⟩ | ⟨_, _, _, e, _⟩ | ⟨_, _, _, e, _⟩ <;> cases e
theorem Sh.bool {i : Bool} (h : Sh K F G v (.bool i)) : v = .bl i := by
  rcases h with h | ⟨p, o, rfl, q, n⟩
  · cases h; rfl
  · rcases n with ⟨_, _, _, e, _⟩ | ⟨_, _, _, e, _⟩ | ⟨_, _, _, e, _⟩ <;> cases e
theorem Sh.str {i : Str} (h : Sh K F G v (.str i)) : v = .str i := by
  rcases h with h | ⟨p, o, rfl, q, n⟩
  · cases h; rfl
  · rcases n with ⟨_, _, _, e, _⟩ | ⟨_, _, _, e, _⟩ | ⟨_, _, _, e, _⟩ <;> cases e
theorem Sh.none (h : Sh K F G v .none) : v = .non := by
  rcases h with h | ⟨p, o, rfl, q, n⟩
  · cases h; rfl
  · rcases n with ⟨_, _, _, e, _⟩ | ⟨_, _, _, e, _⟩ | ⟨_, _, _, e, _⟩ <;> cases e
theorem Sh.dict {ds : List (PyData × PyData)} (h : Sh K F G v (.dict ds)) (fg : Same F G) :
    (∃ a kvs, v = .ref a ∧ G a = some (.dK kvs) ∧ RpKv K F kvs ds) ∨ ∃ a kvs ds', v = .ref a ∧ G a = some (.dT kvs) ∧ ds = tagT :: ds' ∧ RpTv K F kvs ds' := by
  rcases h with h | ⟨p, o, rfl, q, n⟩
  · cases h with
    | dK s r => exact .inl ⟨_, _, rfl, fg _ _ s, r⟩
    | dT s r => exact .inr ⟨_, _, _, rfl, fg _ _ s, rfl, r⟩
  · rcases n with ⟨_, _, _, e, _⟩ | ⟨kvs, ds', rfl, e, r⟩ | ⟨kvs, ds', rfl, e, r⟩
    · cases e
    · cases e; exact .inl ⟨p, kvs, rfl, q, r⟩
    · cases e; exact .inr ⟨p, kvs, ds', rfl, q, rfl, r⟩
end

/-! ## the relation of a def's slots and an environment -/
structure Rel (c : Cfg) (K : PySem.W.Frag) (F0 G0 F : Hp) (σ : L2.St) (H : Hp) (env : Env) (st : c.I.S) : Prop where
  ext : Ext F0 G0 F (c.mask H)
  src : c.I.ok st H
  fx : ∀ i v, (i, v) ∈ c.fx → σ[i]? = some (some v)
  len : env.length = σ.length
  slot : ∀ i d, env[i]? = some (some d) → ∃ v, σ[i]? = some (some v) ∧ (if c.mu i = true then Own K G0 F (c.mask H) v d else Rp K F v d)
  sep : ∀ (i j : Nat) (p : Addr) d e, c.mu i = true → c.mu j = true → env[i]? = some (some d) → env[j]? = some (some e) → σ[i]? = some (some (.ref p)) → σ[j]? = some (some (.ref p)) → i = j
section
variable {c : Cfg} {K : PySem.W.Frag} {F0 G0 F F' : Hp} {σ : L2.St} {H H' : Hp} {env : Env} {st st' : c.I.S}
theorem Rel.fg (R : Rel c K F0 G0 F σ H env st) : Same F (c.mask H) := R.ext.fg
theorem Rel.fh (R : Rel c K F0 G0 F σ H env st) : Same F H := R.ext.fg.trans (mask_le _ _)
theorem Rel.step (R : Rel c K F0 G0 F σ H env st) (e : Ext F (c.mask H) F' (c.mask H')) (ok : c.I.ok st' H') : Rel c K F0 G0 F' σ H' env st' := by
  refine ⟨R.ext.trans e, ok, R.fx, R.len, fun i d h => ?_, R.sep⟩
  obtain ⟨v, hv, q⟩ := R.slot i d h
  refine ⟨v, hv, ?_⟩
  split at q
  · rename_i hm
    rw [if_pos hm]
    obtain ⟨p, o, rfl, a, b, g, n⟩ := q
    exact ⟨p, o, rfl, a, (e.old p o g n.nt).trans b, e.g _ _ g, n.mono e.f⟩
  · rename_i hm
    rw [if_neg hm]
    exact q.mono e.f
/-- an operation of the machine's own: the whole grows -/
theorem Rel.masked (R : Rel c K F0 G0 F σ H env st) (e : Ext F H F' H') : Ext F (c.mask H) F' (c.mask H') := by
  refine ⟨e.f, mask_mono _ e.g, fun a o h => ?_, fun a o h => e.old a o (mask_le _ _ _ _ h)⟩
  cases q : c.I.hid a with
  | false => show c.I.mask _ a = _; rw [mask_of _ q]; exact e.fg a o h
  | true =>
    obtain ⟨u, hu, nt⟩ := c.I.trk R.src q
    rw [e.old a u hu nt] at h
    have z := R.fg a o h
    unfold Cfg.mask SrcI.mask at z
    rw [q] at z
    cases z
theorem Rel.hidF (R : Rel c K F0 G0 F σ H env st) {p : Addr} (n : H p = none) : c.I.hid p = false := by
  cases q : c.I.hid p with
  | false => rfl
  | true =>
    obtain ⟨u, hu, _⟩ := c.I.trk R.src q
    rw [n] at hu; cases hu
end

/-! ## readings -/
abbrev Den (S : Type) := Env → S → Option (PyData × S)
abbrev DenA (S : Type) := Env → S → Option (List PyData × S)
abbrev DenB (S : Type) := Env → S → Option (Bool × S)
section
variable (K : PySem.W.Frag) (c : Cfg)
/-- a value that never changes -/
def tV (f : Den c.I.S) : TE := fun σ H Q => ∃ F0 G0 F env st d st', Rel c K F0 G0 F σ H env st ∧ f env st = some (d, st') ∧
  ∀ F' H' v, Ext F (c.mask H) F' (c.mask H') → c.I.ok st' H' → Rp K F' v d → Q v H'
/-- a value to be looked at -/
def tP (f : Den c.I.S) : TE := fun σ H Q => ∃ F0 G0 F env st d st', Rel c K F0 G0 F σ H env st ∧ f env st = some (d, st') ∧
  ∀ F' H' v, Ext F (c.mask H) F' (c.mask H') → c.I.ok st' H' → Sh K F' (c.mask H') v d → Q v H'
/-- a new list or dict -/
def tN (f : Den c.I.S) : TE := fun σ H Q => ∃ F0 G0 F env st d st', Rel c K F0 G0 F σ H env st ∧ f env st = some (d, st') ∧
  ∀ F' H' v, Ext F (c.mask H) F' (c.mask H') → c.I.ok st' H' → Nw K (c.mask H) F' (c.mask H') v d → Q v H'
def tT (f : DenB c.I.S) : TT := fun σ H Q => ∃ F0 G0 F env st d st', Rel c K F0 G0 F σ H env st ∧ f env st = some (d, st') ∧
  ∀ F' H', Ext F (c.mask H) F' (c.mask H') → c.I.ok st' H' → Q d H'
def tA (f : DenA c.I.S) : TA := fun σ H Q => ∃ F0 G0 F env st ds st', Rel c K F0 G0 F σ H env st ∧ f env st = some (ds, st') ∧
  ∀ F' H' vs, Ext F (c.mask H) F' (c.mask H') → c.I.ok st' H' → RpAll K F' vs ds → Q vs H'
def tAP (f : DenA c.I.S) : TA := fun σ H Q => ∃ F0 G0 F env st ds st', Rel c K F0 G0 F σ H env st ∧ f env st = some (ds, st') ∧
  ∀ F' H' vs, Ext F (c.mask H) F' (c.mask H') → c.I.ok st' H' → ShAll K F' (c.mask H') vs ds → Q vs H'
end
theorem _root_.L2.PE.imp {X : Cx} {e : Expr} {t t' : TE} (h : PE X e t) (m : ∀ σ H Q, t' σ H Q → t σ H Q) : PE X e t' := ⟨fun pins s σ H Q I q => h.run pins s σ H Q I (m σ H Q q)⟩
theorem _root_.L2.PT.imp {X : Cx} {e : Expr} {t t' : TT} (h : PT X e t) (m : ∀ σ H Q, t' σ H Q → t σ H Q) : PT X e t' := ⟨fun pins s σ H Q I q => h.run pins s σ H Q I (m σ H Q q)⟩
theorem _root_.L2.PA.imp {X : Cx} {e : List Expr} {t t' : TA} (h : PA X e t) (m : ∀ σ H Q, t' σ H Q → t σ H Q) : PA X e t' := ⟨fun pos pins s σ H Q I q => h.run pos pins s σ H Q I (m σ H Q q)⟩
theorem _root_.L2.PS.imp {X : Cx} {e : Stmt} {t t' : TS} (h : PS X e t) (m : ∀ D σ H, t' D σ H → t D σ H) : PS X e t' := ⟨fun pins s σ H Q I q => h.run pins s σ H Q I (m Q σ H q)⟩
theorem _root_.L2.PSs.imp {X : Cx} {e : List Stmt} {t t' : TS} (h : PSs X e t) (m : ∀ D σ H, t' D σ H → t D σ H) : PSs X e t' := ⟨fun pins s σ H Q I q => h.run pins s σ H Q I (m Q σ H q)⟩

abbrev PV (X : Cx) (c : Cfg) (e : Expr) (f : Den c.I.S) : Prop := PE X e (tV X.K c f)
abbrev PP (X : Cx) (c : Cfg) (e : Expr) (f : Den c.I.S) : Prop := PE X e (tP X.K c f)
abbrev PN (X : Cx) (c : Cfg) (e : Expr) (f : Den c.I.S) : Prop := PE X e (tN X.K c f)
abbrev PB (X : Cx) (c : Cfg) (e : Expr) (f : DenB c.I.S) : Prop := PT X e (tT X.K c f)
abbrev PAv (X : Cx) (c : Cfg) (e : List Expr) (f : DenA c.I.S) : Prop := PA X e (tA X.K c f)
abbrev PAp (X : Cx) (c : Cfg) (e : List Expr) (f : DenA c.I.S) : Prop := PA X e (tAP X.K c f)

/-! ## denotations -/
section
variable {S : Type}
def dVar (i : Nat) : Den S := fun e s => match e[i]? with | some (some d) => some (d, s) | _ => none
def dC (d : PyData) : Den S := fun _ s => some (d, s)
def dUn (g : PyData → Option PyData) (f : Den S) : Den S := fun e s => (f e s).bind fun (a, s1) => (g a).map fun d => (d, s1)
def dBin (g : PyData → PyData → Option PyData) (f1 f2 : Den S) : Den S := fun e s => (f1 e s).bind fun (a, s1) => (f2 e s1).bind fun (b, s2) => (g a b).map fun d => (d, s2)
def dANil : DenA S := fun _ s => some ([], s)
def dACons (f : Den S) (r : DenA S) : DenA S := fun e s => (f e s).bind fun (a, s1) => (r e s1).bind fun (as, s2) => some (a :: as, s2)
def dApp (g : List PyData → Option PyData) (r : DenA S) : Den S := fun e s => (r e s).bind fun (as, s1) => (g as).map fun d => (d, s1)
def dTup (r : DenA S) : Den S := fun e s => (r e s).bind fun (as, s1) => if as.length ≤ sizeLine then some (.tuple as, s1) else none
def dLst (r : DenA S) : Den S := fun e s => (r e s).bind fun (as, s1) => if as.length ≤ sizeLine then some (.list as, s1) else none
def toB : PyData → Option Bool
  | .bool b => some b
  | _ => none
def dB (f : Den S) : DenB S := fun e s => (f e s).bind fun (a, s1) => (toB a).map fun b => (b, s1)
def dBAnd (f g : DenB S) : DenB S := fun e s => (f e s).bind fun (a, s1) => if a = true then g e s1 else some (false, s1)
def dBOr (f g : DenB S) : DenB S := fun e s => (f e s).bind fun (a, s1) => if a = true then some (true, s1) else g e s1
def dBNot (f : DenB S) : DenB S := fun e s => (f e s).bind fun (a, s1) => some (!a, s1)
def dAnd (f g : Den S) : Den S := fun e s => (f e s).bind fun (a, s1) => (toB a).bind fun b => if b = true then g e s1 else some (.bool false, s1)
def dOr (f g : Den S) : Den S := fun e s => (f e s).bind fun (a, s1) => (toB a).bind fun b => if b = true then some (.bool true, s1) else g e s1
def dNot (f : Den S) : Den S := fun e s => (f e s).bind fun (a, s1) => (toB a).map fun b => (.bool (!b), s1)
def dIf (t : DenB S) (f g : Den S) : Den S := fun e s => (t e s).bind fun (a, s1) => if a = true then f e s1 else g e s1
def dChain (g1 g2 : PyData → PyData → Option PyData) (f1 f2 f3 : Den S) : Den S := fun e s => (f1 e s).bind fun (a, s1) => (f2 e s1).bind fun (b, s2) =>
  (g1 a b).bind fun x => (toB x).bind fun k => if k = true then (f3 e s2).bind fun (z, s3) => (g2 b z).map fun d => (d, s3) else some (.bool false, s2)
end

/-! ## rules: names, constants, conversions -/
section
variable {X : Cx} {c : Cfg} {e a b : Expr} {f fa fb : Den c.I.S}
theorem var_get {e : Env} {i : Nat} {st st' : c.I.S} {d : PyData} (h : dVar i e st = some (d, st')) : e[i]? = some (some d) ∧ st' = st := by
  unfold dVar at h
  split at h
  · rename_i d' q; cases h; exact ⟨q, rfl⟩
  · cases h
theorem pv_var (i : Nat) {x : Str} {pos : Pos} (hm : c.mu i = false := by rfl) (h : PE X (.Name x pos) (tVar i) := by exact pv i) : PV X c (.Name x pos) (dVar i) := h.imp fun σ H Q ⟨F0, G0, F, env, st, d, st', R, hf, q⟩ => by
  obtain ⟨he, rfl⟩ := var_get hf
  obtain ⟨v, hv, r⟩ := R.slot i d he
  rw [if_neg (by rw [hm]; decide)] at r
  exact ⟨v, hv, q F H v (Ext.refl R.fg) R.src r⟩
theorem pp_var (i : Nat) {x : Str} {pos : Pos} (h : PE X (.Name x pos) (tVar i) := by exact pv i) : PP X c (.Name x pos) (dVar i) := h.imp fun σ H Q ⟨F0, G0, F, env, st, d, st', R, hf, q⟩ => by
  obtain ⟨he, rfl⟩ := var_get hf
  obtain ⟨v, hv, r⟩ := R.slot i d he
  refine ⟨v, hv, q F H v (Ext.refl R.fg) R.src ?_⟩
  split at r
  · obtain ⟨p, o, rfl, _, _, g, n⟩ := r
    exact .inr ⟨p, o, rfl, g, n⟩
  · exact .inl r
theorem pv_c {t : V} {d : PyData} (h : PE X e (tC t)) (r : ∀ K H, Rp K H t d) : PV X c e (dC d) := h.imp fun σ H Q ⟨F0, G0, F, env, st, d', st', R, hf, q⟩ => by
  cases hf
  exact q F H t (Ext.refl R.fg) R.src (r _ _)
theorem pv_int {i : Int} {j pos} : PV X c (.Constant (.int i) j pos) (dC (.int i)) := pv_c pe_int fun _ _ => .int i
theorem pv_bl {i : Bool} {j pos} : PV X c (.Constant (.bool i) j pos) (dC (.bool i)) := pv_c pe_bl fun _ _ => .bl i
theorem pv_non {j pos} : PV X c (.Constant .none j pos) (dC .none) := pv_c pe_non fun _ _ => .non
theorem pv_str {x : Str} {j pos} : PV X c (.Constant (.str x) j pos) (dC (.str x)) := pv_c pe_str fun _ _ => .str x
theorem PV.pp (h : PV X c e f) : PP X c e f := h.imp fun σ H Q ⟨F0, G0, F, env, st, d, st', R, hf, q⟩ =>
  ⟨F0, G0, F, env, st, d, st', R, hf, fun F' H' v x ok r => q F' H' v x ok (.inl r)⟩
theorem PN.pp (h : PN X c e f) : PP X c e f := h.imp fun σ H Q ⟨F0, G0, F, env, st, d, st', R, hf, q⟩ =>
  ⟨F0, G0, F, env, st, d, st', R, hf, fun F' H' v x ok ⟨p, o, ev, n, nf, g, nd⟩ => q F' H' v x ok (.inr ⟨p, o, ev, g, nd⟩)⟩
/-- a new object among what never changes -/
theorem Nw.freeze {K : PySem.W.Frag} {I : SrcI} {H F F' H' : Hp} {v : V} {d : PyData} (x : Ext F (I.mask H) F' (I.mask H')) (h : Nw K (I.mask H) F' (I.mask H') v d) : ∃ F2, Ext F (I.mask H) F2 (I.mask H') ∧ Rp K F2 v d := by
  obtain ⟨p, o, rfl, n, nf, g, nd⟩ := h
  refine ⟨upd F' p o, ⟨x.f.trans (same_new nf), x.g, fun a u e => ?_, fun a u e nt => ?_⟩, (nd.mono (same_new nf)).rp upd_same⟩
  · by_cases ha : a = p
    · subst ha; rw [upd_same] at e; cases e; exact g
    · rw [upd_ne ha] at e; exact x.fg _ _ e
  · have ha : a ≠ p := ne_of_none e n
    rw [upd_ne ha]
    exact x.old a u e nt
theorem PN.pv (h : PN X c e f) : PV X c e f := h.imp fun σ H Q ⟨F0, G0, F, env, st, d, st', R, hf, q⟩ =>
  ⟨F0, G0, F, env, st, d, st', R, hf, fun F' H' v x ok h => by
    obtain ⟨F2, x2, r⟩ := h.freeze x
    exact q F2 H' v x2 ok r⟩

/-! ## rules: operations by values -/
/-- what an operation is worth: r holds where the outcome is wanted -/
abbrev Out (K : PySem.W.Frag) (F H : Hp) (d : PyData) (Q : VK) : Prop := ∀ F' H' v, Ext F H F' H' → Rp K F' v d → Q v H'
abbrev OutN (K : PySem.W.Frag) (F H : Hp) (d : PyData) (Q : VK) : Prop := ∀ p o, H p = none → Node K F o d → Q (.ref p) (upd H p o)
theorem Out.here {K : PySem.W.Frag} {F H : Hp} {d : PyData} {Q : VK} (q : Out K F H d Q) (fg : Same F H) {v : V} (r : Rp K F v d) : Q v H := q F H v (Ext.refl fg) r
theorem Out.tup {K : PySem.W.Frag} {F H : Hp} {ds : List PyData} {Q : VK} (q : Out K F H (.tuple ds) Q) (fg : Same F H) {vs : List V} (r : RpAll K F vs ds) : ∀ p, H p = none → Q (.ref p) (upd H p (.tup vs)) := fun p n =>
  q (upd F p (.tup vs)) _ _ (Ext.new fg n) (.tup upd_same (r.mono (same_new (fg.free n))))
theorem Out.n {K : PySem.W.Frag} {F H : Hp} {d : PyData} {Q : VK} (q : Out K F H d Q) (fg : Same F H) : OutN K F H d Q := fun p o n nd =>
  q (upd F p o) _ _ (Ext.new fg n) ((nd.mono (same_new (fg.free n))).rp upd_same)
theorem OutN.lst {K : PySem.W.Frag} {F H : Hp} {ds : List PyData} {Q : VK} (q : OutN K F H (.list ds) Q) {vs : List V} (r : RpAll K F vs ds) : ∀ p, H p = none → Q (.ref p) (upd H p (.lst vs)) := fun p n =>
  q p (.lst vs) n (.inl ⟨vs, ds, rfl, rfl, r⟩)
abbrev Sem1 (K : PySem.W.Frag) (r : V → Hp → VK → Prop) (g : PyData → Option PyData) : Prop := ∀ F H x a d Q, Same F H → Sh K F H x a → g a = some d → Out K F H d Q → r x H Q
abbrev Sem2 (K : PySem.W.Frag) (r : R2) (g : PyData → PyData → Option PyData) : Prop := ∀ F H x y a b d Q, Same F H → Sh K F H x a → Sh K F H y b → g a b = some d → Out K F H d Q → r x y H Q
abbrev Sem2N (K : PySem.W.Frag) (r : R2) (g : PyData → PyData → Option PyData) : Prop := ∀ F H x y a b d Q, Same F H → Sh K F H x a → Sh K F H y b → g a b = some d → OutN K F H d Q → r x y H Q
abbrev SemL (K : PySem.W.Frag) (r : List V → Hp → VK → Prop) (g : List PyData → Option PyData) : Prop := ∀ F H xs as d Q, Same F H → ShAll K F H xs as → g as = some d → Out K F H d Q → r xs H Q
abbrev SemLN (K : PySem.W.Frag) (r : List V → Hp → VK → Prop) (g : List PyData → Option PyData) : Prop := ∀ F H xs as d Q, Same F H → ShAll K F H xs as → g as = some d → OutN K F H d Q → r xs H Q
theorem Sem2N.out {K : PySem.W.Frag} {r : R2} {g : PyData → PyData → Option PyData} (h : Sem2N K r g) : Sem2 K r g := fun F H x y a b d Q fg sa sb e q => h F H x y a b d Q fg sa sb e (q.n fg)
theorem SemLN.out {K : PySem.W.Frag} {r : List V → Hp → VK → Prop} {g : List PyData → Option PyData} (h : SemLN K r g) : SemL K r g := fun F H xs as d Q fg sa e q => h F H xs as d Q fg sa e (q.n fg)
theorem Sem2.or1 {K : PySem.W.Frag} {r r' : R2} {g : PyData → PyData → Option PyData} (h : Sem2 K r g) : Sem2 K (fun x y H Q => r x y H Q ∨ r' x y H Q) g := fun F H x y a b d Q fg sa sb e q => .inl (h F H x y a b d Q fg sa sb e q)

/-- the outcome of an operation, back among the slots -/
theorem Rel.out {K : PySem.W.Frag} {F0 G0 F : Hp} {σ : L2.St} {H : Hp} {env : Env} {st : c.I.S} {d : PyData} {Q : VK} (R : Rel c K F0 G0 F σ H env st)
    (q : ∀ F' H' v, Ext F (c.mask H) F' (c.mask H') → c.I.ok st H' → Rp K F' v d → Q v H') : Out K F H d Q := fun F' H' v x r => q F' H' v (R.masked x) (c.I.mono x.g R.src) r
theorem Rel.outN {K : PySem.W.Frag} {F0 G0 F : Hp} {σ : L2.St} {H : Hp} {env : Env} {st : c.I.S} {d : PyData} {Q : VK} (R : Rel c K F0 G0 F σ H env st)
    (q : ∀ F' H' v, Ext F (c.mask H) F' (c.mask H') → c.I.ok st H' → Nw K (c.mask H) F' (c.mask H') v d → Q v H') : OutN K F H d Q := fun p o n nd =>
  q F _ _ (R.masked (Ext.alloc R.fh n)) (c.I.mono (same_new n) R.src) ⟨p, o, rfl, (mask_le _ _).free n, R.fh.free n, by show c.I.mask _ p = _; rw [mask_of _ (R.hidF n)]; exact upd_same, nd⟩
theorem Sh.whole {K : PySem.W.Frag} {F H : Hp} {v : V} {d : PyData} (h : Sh K F (c.mask H) v d) : Sh K F H v d := h.mono (Same.refl _) (mask_le _ _)
theorem ShAll.whole {K : PySem.W.Frag} {F H : Hp} {v : List V} {d : List PyData} (h : ShAll K F (c.mask H) v d) : ShAll K F H v d := h.mono (Same.refl _) (mask_le _ _)

theorem un_of {K : PySem.W.Frag} {r : V → Hp → VK → Prop} {g : PyData → Option PyData} (sem : Sem1 K r g) : ∀ σ H Q, tV K c (dUn g fa) σ H Q → tUn r (tP K c fa) σ H Q :=
  fun σ H Q ⟨F0, G0, F, env, st, d, st', R, hf, q⟩ => by
    unfold dUn at hf
    obtain ⟨⟨x, s1⟩, h1, hf⟩ := Option.bind_eq_some_iff.mp hf
    obtain ⟨d', h2, hf⟩ := Option.map_eq_some_iff.mp hf
    cases hf
    refine ⟨F0, G0, F, env, st, x, _, R, h1, fun F' H' v x1 ok sv => ?_⟩
    have R1 := R.step x1 ok
    exact sem F' H' v x _ Q R1.fh sv.whole h2 (R1.out fun F2 H2 w x2 ok2 r => q F2 H2 w (x1.trans x2) ok2 r)
theorem op_of {K : PySem.W.Frag} {r : R2} {g : PyData → PyData → Option PyData} (sem : Sem2 K r g) : ∀ σ H Q, tV K c (dBin g fa fb) σ H Q → tOp r (tP K c fa) (tP K c fb) σ H Q :=
  fun σ H Q ⟨F0, G0, F, env, st, d, st', R, hf, q⟩ => by
    unfold dBin at hf
    obtain ⟨⟨x, s1⟩, h1, hf⟩ := Option.bind_eq_some_iff.mp hf
    obtain ⟨⟨y, s2⟩, h2, hf⟩ := Option.bind_eq_some_iff.mp hf
    obtain ⟨d', h3, hf⟩ := Option.map_eq_some_iff.mp hf
    cases hf
    refine ⟨F0, G0, F, env, st, x, s1, R, h1, fun F1 H1 v x1 ok1 sv => ?_⟩
    have R1 := R.step x1 ok1
    refine ⟨F0, G0, F1, env, s1, y, _, R1, h2, fun F2 H2 u x2 ok2 su => ?_⟩
    have R2 := R1.step x2 ok2
    exact sem F2 H2 v u x y _ Q R2.fh (sv.mono x2.f x2.g).whole su.whole h3 (R2.out fun F3 H3 w x3 ok3 r => q F3 H3 w ((x1.trans x2).trans x3) ok3 r)
theorem opN_of {K : PySem.W.Frag} {r : R2} {g : PyData → PyData → Option PyData} (sem : Sem2N K r g) : ∀ σ H Q, tN K c (dBin g fa fb) σ H Q → tOp r (tP K c fa) (tP K c fb) σ H Q :=
  fun σ H Q ⟨F0, G0, F, env, st, d, st', R, hf, q⟩ => by
    unfold dBin at hf
    obtain ⟨⟨x, s1⟩, h1, hf⟩ := Option.bind_eq_some_iff.mp hf
    obtain ⟨⟨y, s2⟩, h2, hf⟩ := Option.bind_eq_some_iff.mp hf
    obtain ⟨d', h3, hf⟩ := Option.map_eq_some_iff.mp hf
    cases hf
    refine ⟨F0, G0, F, env, st, x, s1, R, h1, fun F1 H1 v x1 ok1 sv => ?_⟩
    have R1 := R.step x1 ok1
    refine ⟨F0, G0, F1, env, s1, y, _, R1, h2, fun F2 H2 u x2 ok2 su => ?_⟩
    have R2 := R1.step x2 ok2
    refine sem F2 H2 v u x y _ Q R2.fh (sv.mono x2.f x2.g).whole su.whole h3 (R2.outN fun F3 H3 w x3 ok3 r => q F3 H3 w ((x1.trans x2).trans x3) ok3 ?_)
    exact r.back (x1.trans x2).g
end
end DL

set_option Elab.async false
set_option linter.all false
set_option maxRecDepth 100000
namespace DL
open PySem PySem.Spec PyProof.Rows L2

/-! ## argument lists, displays, calls of built-ins -/
section
variable {X : Cx} {c : Cfg} {e a b : Expr} {es : List Expr} {f fa fb fc : Den c.I.S} {fs : DenA c.I.S} {g : List PyData → Option PyData} {pos : Pos}
theorem pav_nil : PAv X c [] dANil := pa_nil.imp fun σ H Q ⟨F0, G0, F, env, st, ds, st', R, hf, q⟩ => by
  cases hf
  exact q F H [] (Ext.refl R.fg) R.src .nil
theorem pap_nil : PAp X c [] dANil := pa_nil.imp fun σ H Q ⟨F0, G0, F, env, st, ds, st', R, hf, q⟩ => by
  cases hf
  exact q F H [] (Ext.refl R.fg) R.src .nil
theorem acons_inv {st st' : c.I.S} {ds : List PyData} {env : Env} (h : dACons f fs env st = some (ds, st')) : ∃ d s1 ds', f env st = some (d, s1) ∧ fs env s1 = some (ds', st') ∧ ds = d :: ds' := by
  unfold dACons at h
  obtain ⟨⟨x, s1⟩, h1, h⟩ := Option.bind_eq_some_iff.mp h
  obtain ⟨⟨y, s2⟩, h2, h⟩ := Option.bind_eq_some_iff.mp h
  cases h
  exact ⟨x, s1, y, h1, h2, rfl⟩
theorem pav_cons (ha : PV X c e f) (hr : PAv X c es fs) (hs : starEach (e :: es) X.env = (false, eval e X.env) :: starEach es X.env := by rfl) : PAv X c (e :: es) (dACons f fs) :=
  (pa_cons ha hr hs).imp fun σ H Q ⟨F0, G0, F, env, st, ds, st', R, hf, q⟩ => by
    obtain ⟨d, s1, ds', h1, h2, rfl⟩ := acons_inv hf
    refine ⟨F0, G0, F, env, st, d, s1, R, h1, fun F1 H1 v x1 ok1 r1 => ?_⟩
    exact ⟨F0, G0, F1, env, s1, ds', st', R.step x1 ok1, h2, fun F2 H2 vs x2 ok2 r2 => q F2 H2 _ (x1.trans x2) ok2 (.cons (r1.mono x2.f) r2)⟩
theorem pap_cons (ha : PP X c e f) (hr : PAp X c es fs) (hs : starEach (e :: es) X.env = (false, eval e X.env) :: starEach es X.env := by rfl) : PAp X c (e :: es) (dACons f fs) :=
  (pa_cons ha hr hs).imp fun σ H Q ⟨F0, G0, F, env, st, ds, st', R, hf, q⟩ => by
    obtain ⟨d, s1, ds', h1, h2, rfl⟩ := acons_inv hf
    refine ⟨F0, G0, F, env, st, d, s1, R, h1, fun F1 H1 v x1 ok1 r1 => ?_⟩
    exact ⟨F0, G0, F1, env, s1, ds', st', R.step x1 ok1, h2, fun F2 H2 vs x2 ok2 r2 => q F2 H2 _ (x1.trans x2) ok2 (.cons (r1.mono x2.f x2.g) r2)⟩
theorem bind_if {α β : Type} {o : Option α} {p : α → Prop} [∀ a, Decidable (p a)] {k : α → β} {y : β} (h : (o.bind fun a => if p a then some (k a) else none) = some y) : ∃ a, o = some a ∧ p a ∧ y = k a := by
  obtain ⟨x, h1, h⟩ := Option.bind_eq_some_iff.mp h
  split at h
  · rename_i q; cases h; exact ⟨x, h1, q, rfl⟩
  · cases h
theorem pv_tup {k : Nat} (h : PAv X c es fs) : PV X c (.Tuple es k pos) (dTup fs) := (pe_tup h).imp fun σ H Q ⟨F0, G0, F, env, st, ds, st', R, hf, q⟩ => by
  unfold dTup at hf
  obtain ⟨⟨x, s1⟩, h1, hl, e⟩ := bind_if (p := fun (a : List PyData × c.I.S) => a.1.length ≤ sizeLine) hf
  cases e
  refine ⟨F0, G0, F, env, st, x, s1, R, h1, fun F1 H1 vs x1 ok1 r1 => ?_⟩
  have R1 := R.step x1 ok1
  refine ⟨by rw [r1.length]; exact hl, ?_⟩
  exact Out.tup (R1.out fun F2 H2 w x2 ok2 r => q F2 H2 w (x1.trans x2) ok2 r) R1.fh r1
theorem pn_lst (h : PAv X c es fs) : PN X c (.List es pos) (dLst fs) := (pe_lst h).imp fun σ H Q ⟨F0, G0, F, env, st, ds, st', R, hf, q⟩ => by
  unfold dLst at hf
  obtain ⟨⟨x, s1⟩, h1, hl, e⟩ := bind_if (p := fun (a : List PyData × c.I.S) => a.1.length ≤ sizeLine) hf
  cases e
  refine ⟨F0, G0, F, env, st, x, s1, R, h1, fun F1 H1 vs x1 ok1 r1 => ?_⟩
  have R1 := R.step x1 ok1
  refine ⟨by rw [r1.length]; exact hl, ?_⟩
  exact OutN.lst (R1.outN fun F2 H2 w x2 ok2 r => q F2 H2 w (x1.trans x2) ok2 (r.back x1.g)) r1
theorem app_inv {st st' : c.I.S} {d : PyData} {env : Env} (h : dApp g fs env st = some (d, st')) : ∃ as, fs env st = some (as, st') ∧ g as = some d := by
  unfold dApp at h
  obtain ⟨⟨x, s1⟩, h1, h⟩ := Option.bind_eq_some_iff.mp h
  obtain ⟨d', h2, h⟩ := Option.map_eq_some_iff.mp h
  cases h
  exact ⟨x, h1, h2⟩
theorem app_of {K : PySem.W.Frag} {r : List V → Hp → VK → Prop} (sem : SemL K r g) : ∀ σ H Q, tV K c (dApp g fs) σ H Q → tCB r (tAP K c fs) σ H Q :=
  fun σ H Q ⟨F0, G0, F, env, st, d, st', R, hf, q⟩ => by
    obtain ⟨as, h1, h2⟩ := app_inv hf
    refine ⟨F0, G0, F, env, st, as, st', R, h1, fun F1 H1 vs x1 ok1 r1 => ?_⟩
    have R1 := R.step x1 ok1
    exact sem F1 H1 vs as _ Q R1.fh r1.whole h2 (R1.out fun F2 H2 w x2 ok2 r => q F2 H2 w (x1.trans x2) ok2 r)
theorem appN_of {K : PySem.W.Frag} {r : List V → Hp → VK → Prop} (sem : SemLN K r g) : ∀ σ H Q, tN K c (dApp g fs) σ H Q → tCB r (tAP K c fs) σ H Q :=
  fun σ H Q ⟨F0, G0, F, env, st, d, st', R, hf, q⟩ => by
    obtain ⟨as, h1, h2⟩ := app_inv hf
    refine ⟨F0, G0, F, env, st, as, st', R, h1, fun F1 H1 vs x1 ok1 r1 => ?_⟩
    have R1 := R.step x1 ok1
    exact sem F1 H1 vs as _ Q R1.fh r1.whole h2 (R1.outN fun F2 H2 w x2 ok2 r => q F2 H2 w (x1.trans x2) ok2 (r.back x1.g))

/-! ## tests -/
theorem b_of {K : PySem.W.Frag} : ∀ σ H Q, tT K c (dB f) σ H Q → tV K c f σ H (fun x H1 => ∃ k, x = .bl k ∧ Q k H1) := fun σ H Q ⟨F0, G0, F, env, st, d, st', R, hf, q⟩ => by
  unfold dB at hf
  obtain ⟨⟨x, s1⟩, h1, hf⟩ := Option.bind_eq_some_iff.mp hf
  obtain ⟨k, h2, hf⟩ := Option.map_eq_some_iff.mp hf
  cases hf
  refine ⟨F0, G0, F, env, st, x, _, R, h1, fun F' H' v xx ok r => ?_⟩
  unfold toB at h2
  split at h2
  · cases h2; cases r; exact ⟨_, rfl, q F' H' xx ok⟩
  · cases h2
theorem pb_val (h : PV X c e f) (he : ∀ whole, isTrue e X.env whole = (do let v ← whole; standAt e.pos; holding [v] (truthy v)) := by intro _; rfl) : PB X c e (dB f) := (pt_val h he).imp b_of
theorem pb_cmp {op : CmpOp} {r : R2} {g : PyData → PyData → Option PyData} (ho : OpR X (compareOp op) r) (sem : Sem2 X.K r g) (ha : PP X c a fa) (hb : PP X c b fb) (hm : behindInMarks op b = false) :
    PB X c (.Compare a [op] [b] pos) (dB (dBin g fa fb)) := (pt_cmpR ho ha hb hm).imp fun σ H Q h => op_of sem σ H _ (b_of σ H Q h)
theorem pv_cmp {op : CmpOp} {r : R2} {g : PyData → PyData → Option PyData} (ho : OpR X (compareOp op) r) (sem : Sem2 X.K r g) (ha : PP X c a fa) (hb : PP X c b fb) (hm : behindInMarks op b = false) :
    PV X c (.Compare a [op] [b] pos) (dBin g fa fb) := (pe_cmpR ho ha hb hm).imp (op_of sem)
theorem pv_bin {op : Operator} {r : R2} {g : PyData → PyData → Option PyData} (ho : OpR X (binaryOp op) r) (sem : Sem2 X.K r g) (ha : PP X c a fa) (hb : PP X c b fb) :
    PV X c (.BinOp a op b pos) (dBin g fa fb) := (pe_op ho ha hb).imp (op_of sem)
theorem pn_bin {op : Operator} {r : R2} {g : PyData → PyData → Option PyData} (ho : OpR X (binaryOp op) r) (sem : Sem2N X.K r g) (ha : PP X c a fa) (hb : PP X c b fb) :
    PN X c (.BinOp a op b pos) (dBin g fa fb) := (pe_op ho ha hb).imp (opN_of sem)
theorem pv_ix {r : R2} {g : PyData → PyData → Option PyData} (ho : IxR X r) (sem : Sem2 X.K r g) (ha : PP X c a fa) (hb : PP X c b fb) (hs : PlainIx b := by exact fun _ _ => rfl) :
    PV X c (.Subscript a b pos) (dBin g fa fb) := (pe_ix ho ha hb hs).imp (op_of sem)
theorem chain_of {K : PySem.W.Frag} {r r' : R2} {g g' : PyData → PyData → Option PyData} (sem : Sem2 K r g) (sem' : Sem2 K r' g') : ∀ σ H Q, tV K c (dChain g g' fa fb fc) σ H Q → tChain r r' (tP K c fa) (tP K c fb) (tP K c fc) σ H Q :=
  fun σ H Q ⟨F0, G0, F, env, st, d, st', R, hf, q⟩ => by
    unfold dChain at hf
    obtain ⟨⟨x, s1⟩, h1, hf1⟩ := Option.bind_eq_some_iff.mp hf
    obtain ⟨⟨y, s2⟩, h2, hf2⟩ := Option.bind_eq_some_iff.mp hf1
    obtain ⟨z, h3, hf3⟩ := Option.bind_eq_some_iff.mp hf2
    obtain ⟨k, h4, hf4⟩ := Option.bind_eq_some_iff.mp hf3
    clear hf hf1 hf2 hf3
    refine ⟨F0, G0, F, env, st, x, s1, R, h1, fun F1 H1 v x1 ok1 sv => ?_⟩
    have R1 := R.step x1 ok1
    refine ⟨F0, G0, F1, env, s1, y, s2, R1, h2, fun F2 H2 u x2 ok2 su => ?_⟩
    have R2 := R1.step x2 ok2
    have x12 := x1.trans x2
    refine sem F2 H2 v u x y z _ R2.fh (sv.mono x2.f x2.g).whole su.whole h3 (R2.out fun F3 H3 w x3 ok3 r3 => ?_)
    have ez : z = .bool k := by
      unfold toB at h4
      split at h4
      · cases h4; rfl
      · cases h4
    subst ez
    cases r3
    refine ⟨k, rfl, ?_⟩
    have R3 := R2.step x3 ok3
    cases k with
    | false =>
      simp only [reduceIte, Bool.false_eq_true] at hf4 ⊢
      cases hf4
      exact q F3 H3 _ (x12.trans x3) ok3 (.bl false)
    | true =>
      simp only [reduceIte] at hf4 ⊢
      obtain ⟨⟨z, s3⟩, h5, hf5⟩ := Option.bind_eq_some_iff.mp hf4
      obtain ⟨d', h6, hf6⟩ := Option.map_eq_some_iff.mp hf5
      cases hf6
      refine ⟨F0, G0, F3, env, s2, z, _, R3, h5, fun F4 H4 w' x4 ok4 sw => ?_⟩
      have R4 := R3.step x4 ok4
      have x34 := x3.trans x4
      exact sem' F4 H4 u w' y z _ Q R4.fh (su.mono x34.f x34.g).whole sw.whole h6 (R4.out fun F5 H5 t x5 ok5 r5 => q F5 H5 t ((x12.trans x34).trans x5) ok5 r5)
theorem pv_chain {op op' : CmpOp} {e1 e2 e3 : Expr} {r r' : R2} {g g' : PyData → PyData → Option PyData} (ho : OpR X (compareOp op) r) (sem : Sem2 X.K r g) (ho' : OpR X (compareOp op') r') (sem' : Sem2 X.K r' g') (ha : PP X c e1 fa) (hb : PP X c e2 fb) (hc : PP X c e3 fc)
    (hm : lastMarks [op, op'] [e2, e3] = false := by with_unfolding_all rfl) : PV X c (.Compare e1 [op, op'] [e2, e3] pos) (dChain g g' fa fb fc) := (pe_chain ho ho' ha hb hc hm).imp (chain_of sem sem')
theorem pb_chain {op op' : CmpOp} {e1 e2 e3 : Expr} {r r' : R2} {g g' : PyData → PyData → Option PyData} (ho : OpR X (compareOp op) r) (sem : Sem2 X.K r g) (ho' : OpR X (compareOp op') r') (sem' : Sem2 X.K r' g') (ha : PP X c e1 fa) (hb : PP X c e2 fb) (hc : PP X c e3 fc)
    (hm : lastMarks [op, op'] [e2, e3] = false := by with_unfolding_all rfl) : PB X c (.Compare e1 [op, op'] [e2, e3] pos) (dB (dChain g g' fa fb fc)) := (pt_chain ho ho' ha hb hc hm).imp fun σ H Q h => chain_of sem sem' σ H _ (b_of σ H Q h)
variable {ga gb : DenB c.I.S} {rest : List Expr}
theorem pb_and1 (ha : PB X c a ga) : PB X c (.BoolOp .And [a] pos) ga := (pw_and1 ha).pt
theorem pb_or1 (ha : PB X c a ga) : PB X c (.BoolOp .Or [a] pos) ga := (pw_or1 ha).pt
theorem band_of {K : PySem.W.Frag} : ∀ σ H Q, tT K c (dBAnd ga gb) σ H Q → tAnd (tT K c ga) (tT K c gb) σ H Q := fun σ H Q ⟨F0, G0, F, env, st, d, st', R, hf, q⟩ => by
  unfold dBAnd at hf
  obtain ⟨⟨k, s1⟩, h1, hf⟩ := Option.bind_eq_some_iff.mp hf
  refine ⟨F0, G0, F, env, st, k, s1, R, h1, fun F1 H1 x1 ok1 => ?_⟩
  have R1 := R.step x1 ok1
  cases k with
  | true => simp only [reduceIte, Bool.false_eq_true] at hf ⊢; exact ⟨F0, G0, F1, env, s1, d, st', R1, hf, fun F2 H2 x2 ok2 => q F2 H2 (x1.trans x2) ok2⟩
  | false => simp only [reduceIte, Bool.false_eq_true] at hf ⊢; cases hf; exact q F1 H1 x1 ok1
theorem bor_of {K : PySem.W.Frag} : ∀ σ H Q, tT K c (dBOr ga gb) σ H Q → tOr (tT K c ga) (tT K c gb) σ H Q := fun σ H Q ⟨F0, G0, F, env, st, d, st', R, hf, q⟩ => by
  unfold dBOr at hf
  obtain ⟨⟨k, s1⟩, h1, hf⟩ := Option.bind_eq_some_iff.mp hf
  refine ⟨F0, G0, F, env, st, k, s1, R, h1, fun F1 H1 x1 ok1 => ?_⟩
  have R1 := R.step x1 ok1
  cases k with
  | false => simp only [reduceIte, Bool.false_eq_true] at hf ⊢; exact ⟨F0, G0, F1, env, s1, d, st', R1, hf, fun F2 H2 x2 ok2 => q F2 H2 (x1.trans x2) ok2⟩
  | true => simp only [reduceIte, Bool.false_eq_true] at hf ⊢; cases hf; exact q F1 H1 x1 ok1
end
/-- and, or as tests: the judgement that does not look at its whole -/
abbrev PBw (X : Cx) (c : Cfg) (e : Expr) (f : DenB c.I.S) : Prop := PW X e (tT X.K c f)
theorem _root_.L2.PW.imp {X : Cx} {e : Expr} {t t' : TT} (h : PW X e t) (m : ∀ σ H Q, t' σ H Q → t σ H Q) : PW X e t' := ⟨fun wh pins s σ H Q I q => h.run wh pins s σ H Q I (m σ H Q q)⟩
section
variable {X : Cx} {c : Cfg} {e a b : Expr} {es : List Expr} {f fa fb fc : Den c.I.S} {ga gb : DenB c.I.S} {rest : List Expr} {pos : Pos}
theorem pbw_and1 (ha : PB X c a ga) : PBw X c (.BoolOp .And [a] pos) ga := pw_and1 ha
theorem pbw_or1 (ha : PB X c a ga) : PBw X c (.BoolOp .Or [a] pos) ga := pw_or1 ha
theorem pbw_and (ha : PB X c a ga) (hb : PBw X c (.BoolOp .And (b :: rest) pos) gb) : PBw X c (.BoolOp .And (a :: b :: rest) pos) (dBAnd ga gb) := (pw_and ha hb).imp band_of
theorem pbw_or (ha : PB X c a ga) (hb : PBw X c (.BoolOp .Or (b :: rest) pos) gb) : PBw X c (.BoolOp .Or (a :: b :: rest) pos) (dBOr ga gb) := (pw_or ha hb).imp bor_of
theorem PBw.pb (h : PBw X c e ga) : PB X c e ga := PW.pt h
theorem pb_not (ha : PB X c a ga) : PB X c (.UnaryOp .Not a pos) (dBNot ga) := (pt_not ha).imp fun σ H Q ⟨F0, G0, F, env, st, d, st', R, hf, q⟩ => by
  unfold dBNot at hf
  obtain ⟨⟨k, s1⟩, h1, hf⟩ := Option.bind_eq_some_iff.mp hf
  cases hf
  exact ⟨F0, G0, F, env, st, k, _, R, h1, fun F1 H1 x1 ok1 => q F1 H1 x1 ok1⟩

/-! ## and, or, not, conditional expressions as values -/
theorem toB_inv {d : PyData} {k : Bool} (h : toB d = some k) : d = .bool k := by
  unfold toB at h
  split at h
  · cases h; rfl
  · cases h
theorem pv_one {op : BoolOp} (h : PV X c a fa) : PV X c (.BoolOp op [a] pos) fa := pe_one h
theorem pv_and (ha : PV X c a fa) (hb : PV X c (.BoolOp .And (b :: rest) pos) fb) : PV X c (.BoolOp .And (a :: b :: rest) pos) (dAnd fa fb) := (pe_and ha hb).imp fun σ H Q ⟨F0, G0, F, env, st, d, st', R, hf, q⟩ => by
  unfold dAnd at hf
  obtain ⟨⟨k, s1⟩, h1, hf⟩ := Option.bind_eq_some_iff.mp hf
  obtain ⟨k2, h2, hf⟩ := Option.bind_eq_some_iff.mp hf
  have e := toB_inv h2
  try dsimp only at e
  subst e
  refine ⟨F0, G0, F, env, st, _, s1, R, h1, fun F1 H1 v x1 ok1 r => ?_⟩
  have R1 := R.step x1 ok1
  cases r
  refine ⟨k2, rfl, ?_⟩
  cases k2 with
  | true => simp only [reduceIte, Bool.false_eq_true] at hf ⊢; exact ⟨F0, G0, F1, env, s1, d, st', R1, hf, fun F2 H2 v x2 ok2 r => q F2 H2 v (x1.trans x2) ok2 r⟩
  | false => simp only [reduceIte, Bool.false_eq_true] at hf ⊢; cases hf; exact q F1 H1 _ x1 ok1 (.bl false)
theorem pv_or (ha : PV X c a fa) (hb : PV X c (.BoolOp .Or (b :: rest) pos) fb) : PV X c (.BoolOp .Or (a :: b :: rest) pos) (dOr fa fb) := (pe_or ha hb).imp fun σ H Q ⟨F0, G0, F, env, st, d, st', R, hf, q⟩ => by
  unfold dOr at hf
  obtain ⟨⟨k, s1⟩, h1, hf⟩ := Option.bind_eq_some_iff.mp hf
  obtain ⟨k2, h2, hf⟩ := Option.bind_eq_some_iff.mp hf
  have e := toB_inv h2
  try dsimp only at e
  subst e
  refine ⟨F0, G0, F, env, st, _, s1, R, h1, fun F1 H1 v x1 ok1 r => ?_⟩
  have R1 := R.step x1 ok1
  cases r
  refine ⟨k2, rfl, ?_⟩
  cases k2 with
  | false => simp only [reduceIte, Bool.false_eq_true] at hf ⊢; exact ⟨F0, G0, F1, env, s1, d, st', R1, hf, fun F2 H2 v x2 ok2 r => q F2 H2 v (x1.trans x2) ok2 r⟩
  | true => simp only [reduceIte, Bool.false_eq_true] at hf ⊢; cases hf; exact q F1 H1 _ x1 ok1 (.bl true)
theorem pv_not (ha : PV X c a fa) : PV X c (.UnaryOp .Not a pos) (dNot fa) := (pe_not ha).imp fun σ H Q ⟨F0, G0, F, env, st, d, st', R, hf, q⟩ => by
  unfold dNot at hf
  obtain ⟨⟨k, s1⟩, h1, hf⟩ := Option.bind_eq_some_iff.mp hf
  obtain ⟨k2, h2, hf⟩ := Option.map_eq_some_iff.mp hf
  have e := toB_inv h2
  try dsimp only at e
  subst e
  cases hf
  refine ⟨F0, G0, F, env, st, _, _, R, h1, fun F1 H1 v x1 ok1 r => ?_⟩
  cases r
  exact ⟨k2, rfl, q F1 H1 _ x1 ok1 (.bl _)⟩
theorem pv_if {t : Expr} (ht : PB X c t ga) (ha : PV X c a fa) (hb : PV X c b fb) : PV X c (.IfExp t a b pos) (dIf ga fa fb) := (pe_ifExp ht ha hb).imp fun σ H Q ⟨F0, G0, F, env, st, d, st', R, hf, q⟩ => by
  unfold dIf at hf
  obtain ⟨⟨k, s1⟩, h1, hf⟩ := Option.bind_eq_some_iff.mp hf
  refine ⟨F0, G0, F, env, st, k, s1, R, h1, fun F1 H1 x1 ok1 => ?_⟩
  have R1 := R.step x1 ok1
  cases k with
  | true => simp only [reduceIte, Bool.false_eq_true] at hf ⊢; exact ⟨F0, G0, F1, env, s1, d, st', R1, hf, fun F2 H2 v x2 ok2 r => q F2 H2 v (x1.trans x2) ok2 r⟩
  | false => simp only [reduceIte, Bool.false_eq_true] at hf ⊢; exact ⟨F0, G0, F1, env, s1, d, st', R1, hf, fun F2 H2 v x2 ok2 r => q F2 H2 v (x1.trans x2) ok2 r⟩

/-! ## slices -/
abbrev DenO (S : Type) := Env → S → Option (Option Int × S)
def tOp0 (K : PySem.W.Frag) (c : Cfg) (f : DenO c.I.S) : TO := fun σ H Q => ∃ F0 G0 F env st d st', Rel c K F0 G0 F σ H env st ∧ f env st = some (d, st') ∧
  ∀ F' H', Ext F (c.mask H) F' (c.mask H') → c.I.ok st' H' → Q d H'
def dONone {S : Type} : DenO S := fun _ s => some (none, s)
def dOSome {S : Type} (f : Den S) : DenO S := fun e s => (f e s).bind fun (a, s1) => match a with | .int i => some (some i, s1) | _ => none
def dSl {S : Type} (g : PyData → Option Int → Option Int → Option PyData) (f : Den S) (l h : DenO S) : Den S := fun e s => (f e s).bind fun (a, s1) => (l e s1).bind fun (i, s2) => (h e s2).bind fun (j, s3) => (g a i j).map fun d => (d, s3)
abbrev POv (X : Cx) (c : Cfg) (e : Option Expr) (f : DenO c.I.S) : Prop := PO X e (tOp0 X.K c f)
theorem pov_none : POv X c none dONone := ⟨fun pins s σ H Q I ⟨F0, G0, F, env, st, d, st', R, hf, q⟩ => by
  cases hf
  exact po_none.run pins s σ H Q I (q F H (Ext.refl R.fg) R.src)⟩
theorem pov_some (h : PP X c e f) : POv X c (some e) (dOSome f) := ⟨fun pins s σ H Q I ⟨F0, G0, F, env, st, d, st', R, hf, q⟩ => by
  refine (po_some h).run pins s σ H Q I ?_
  unfold dOSome at hf
  obtain ⟨⟨x, s1⟩, h1, hf⟩ := Option.bind_eq_some_iff.mp hf
  cases x <;> simp at hf
  obtain ⟨rfl, rfl⟩ := hf
  exact ⟨F0, G0, F, env, st, _, _, R, h1, fun F1 H1 v x1 ok1 r => ⟨_, r.int, q F1 H1 x1 ok1⟩⟩⟩
abbrev Sem3 (K : PySem.W.Frag) (r : V → Option Int → Option Int → Hp → VK → Prop) (g : PyData → Option Int → Option Int → Option PyData) : Prop := ∀ F H x a i j d Q, Same F H → Sh K F H x a → g a i j = some d → Out K F H d Q → r x i j H Q
abbrev Sem3N (K : PySem.W.Frag) (r : V → Option Int → Option Int → Hp → VK → Prop) (g : PyData → Option Int → Option Int → Option PyData) : Prop := ∀ F H x a i j d Q, Same F H → Sh K F H x a → g a i j = some d → OutN K F H d Q → r x i j H Q
theorem sl_inv {S : Type} {g : PyData → Option Int → Option Int → Option PyData} {f : Den S} {l h : DenO S} {env : Env} {st st' : S} {d : PyData} (hf : dSl g f l h env st = some (d, st')) :
    ∃ a s1 i s2 j, f env st = some (a, s1) ∧ l env s1 = some (i, s2) ∧ h env s2 = some (j, st') ∧ g a i j = some d := by
  unfold dSl at hf
  obtain ⟨⟨a, s1⟩, h1, hf⟩ := Option.bind_eq_some_iff.mp hf
  obtain ⟨⟨i, s2⟩, h2, hf⟩ := Option.bind_eq_some_iff.mp hf
  obtain ⟨⟨j, s3⟩, h3, hf⟩ := Option.bind_eq_some_iff.mp hf
  obtain ⟨d', h4, hf⟩ := Option.map_eq_some_iff.mp hf
  cases hf
  exact ⟨a, s1, i, s2, j, h1, h2, h3, h4⟩
variable {lo hi : Option Expr} {fl fh : DenO c.I.S} {p2 : Pos} {r : V → Option Int → Option Int → Hp → VK → Prop} {g : PyData → Option Int → Option Int → Option PyData}
theorem pv_slice (hr : SlR X r) (sem : Sem3 X.K r g) (he : PP X c e f) (hl : POv X c lo fl) (hh : POv X c hi fh) : PV X c (.Subscript e (.Slice lo hi none p2) pos) (dSl g f fl fh) :=
  (pe_slice hr he hl hh).imp fun σ H Q ⟨F0, G0, F, env, st, d, st', R, hf, q⟩ => by
    obtain ⟨a, s1, i, s2, j, h1, h2, h3, h4⟩ := sl_inv hf
    refine ⟨F0, G0, F, env, st, a, s1, R, h1, fun F1 H1 v x1 ok1 r1 => ?_⟩
    have R1 := R.step x1 ok1
    refine ⟨F0, G0, F1, env, s1, i, s2, R1, h2, fun F2 H2 x2 ok2 => ?_⟩
    have R2 := R1.step x2 ok2
    refine ⟨F0, G0, F2, env, s2, j, st', R2, h3, fun F3 H3 x3 ok3 => ?_⟩
    have R3 := R2.step x3 ok3
    have x23 := x2.trans x3
    exact sem F3 H3 v a i j d Q R3.fh (r1.mono x23.f x23.g).whole h4 (R3.out fun F4 H4 w x4 ok4 r => q F4 H4 w ((x1.trans x23).trans x4) ok4 r)
theorem pn_slice (hr : SlR X r) (sem : Sem3N X.K r g) (he : PP X c e f) (hl : POv X c lo fl) (hh : POv X c hi fh) : PN X c (.Subscript e (.Slice lo hi none p2) pos) (dSl g f fl fh) :=
  (pe_slice hr he hl hh).imp fun σ H Q ⟨F0, G0, F, env, st, d, st', R, hf, q⟩ => by
    obtain ⟨a, s1, i, s2, j, h1, h2, h3, h4⟩ := sl_inv hf
    refine ⟨F0, G0, F, env, st, a, s1, R, h1, fun F1 H1 v x1 ok1 r1 => ?_⟩
    have R1 := R.step x1 ok1
    refine ⟨F0, G0, F1, env, s1, i, s2, R1, h2, fun F2 H2 x2 ok2 => ?_⟩
    have R2 := R1.step x2 ok2
    refine ⟨F0, G0, F2, env, s2, j, st', R2, h3, fun F3 H3 x3 ok3 => ?_⟩
    have R3 := R2.step x3 ok3
    have x23 := x2.trans x3
    exact sem F3 H3 v a i j d Q R3.fh (r1.mono x23.f x23.g).whole h4 (R3.outN fun F4 H4 w x4 ok4 r => q F4 H4 w ((x1.trans x23).trans x4) ok4 (r.back (x1.trans x23).g))
end
end DL

set_option Elab.async false
set_option linter.all false
set_option maxRecDepth 100000
namespace DL
open PySem PySem.Spec PyProof.Rows L2

/-! ## how a statement ends -/
inductive Fl where
  | nx | bk | ct
  | ret (d : PyData)
abbrev DenS (S : Type) := Env → S → Option ((Fl × Env) × S)
section
variable (K : PySem.W.Frag) (c : Cfg)
def EndsOk (F0 G0 F : Hp) (D : Ends) (fl : Fl) (env : Env) (st : c.I.S) : Prop := match fl with
  | .nx => ∀ F' σ' H', Same F F' → Rel c K F0 G0 F' σ' H' env st → D.nx σ' H'
  | .bk => ∀ F' σ' H', Same F F' → Rel c K F0 G0 F' σ' H' env st → D.bk σ' H'
  | .ct => ∀ F' σ' H', Same F F' → Rel c K F0 G0 F' σ' H' env st → D.ct σ' H'
  | .ret d => ∀ F' H' v, Ext F0 G0 F' (c.mask H') → c.I.ok st H' → Rp K F' v d → D.rt v H'
def tS (g : DenS c.I.S) : TS := fun D σ H => ∃ F0 G0 F env st fl env' st', Rel c K F0 G0 F σ H env st ∧ g env st = some ((fl, env'), st') ∧ EndsOk K c F0 G0 F D fl env' st'
end
theorem EndsOk.from {K : PySem.W.Frag} {c : Cfg} {F0 G0 F F1 : Hp} {D : Ends} {fl : Fl} {env : Env} {st : c.I.S} (s : Same F F1) (h : EndsOk K c F0 G0 F D fl env st) : EndsOk K c F0 G0 F1 D fl env st := by
  cases fl with
  | nx => exact fun F' σ' H' e R => h F' σ' H' (s.trans e) R
  | bk => exact fun F' σ' H' e R => h F' σ' H' (s.trans e) R
  | ct => exact fun F' σ' H' e R => h F' σ' H' (s.trans e) R
  | ret d => exact h
abbrev PD (X : Cx) (c : Cfg) (st : Stmt) (g : DenS c.I.S) : Prop := PS X st (tS X.K c g)
abbrev PDs (X : Cx) (c : Cfg) (st : List Stmt) (g : DenS c.I.S) : Prop := PSs X st (tS X.K c g)
section
variable {S : Type}
def sSkip : DenS S := fun e s => some ((.nx, e), s)
def sSeq (g h : DenS S) : DenS S := fun e s => (g e s).bind fun ((fl, e1), s1) => match fl with | .nx => h e1 s1 | fl => some ((fl, e1), s1)
def sRet (f : Den S) : DenS S := fun e s => (f e s).bind fun (d, s1) => some ((.ret d, e), s1)
def sIf (t : DenB S) (g h : DenS S) : DenS S := fun e s => (t e s).bind fun (b, s1) => if b = true then g e s1 else h e s1
def sSet (i : Nat) (f : Den S) : DenS S := fun e s => (f e s).bind fun (d, s1) => some ((.nx, e.set i (some d)), s1)
def sDrop (f : Den S) : DenS S := fun e s => (f e s).bind fun (_, s1) => some ((.nx, e), s1)
def setE : Env → List Nat → List PyData → Env
  | e, i :: is, d :: ds => setE (e.set i (some d)) is ds
  | e, _, _ => e
def sPar (is : List Nat) (f : DenA S) : DenS S := fun e s => (f e s).bind fun (ds, s1) => if ds.length = is.length then some ((.nx, setE e is ds), s1) else none
def sWhile : Nat → DenB S → DenS S → DenS S
  | 0, _, _ => fun _ _ => none
  | n + 1, t, b => fun e s => (t e s).bind fun (k, s1) => if k = true then
      (b e s1).bind fun ((fl, e1), s2) => match fl with
        | .nx => sWhile n t b e1 s2
        | .ct => sWhile n t b e1 s2
        | .bk => some ((.nx, e1), s2)
        | .ret d => some ((.ret d, e1), s2)
    else some ((.nx, e), s1)
def sForL (bd : PyData → Env → Option Env) (b : DenS S) : List PyData → DenS S
  | [], e, s => some ((.nx, e), s)
  | d :: ds, e, s => (bd d e).bind fun e0 => (b e0 s).bind fun ((fl, e1), s1) => match fl with
      | .nx => sForL bd b ds e1 s1
      | .ct => sForL bd b ds e1 s1
      | .bk => some ((.nx, e1), s1)
      | .ret d => some ((.ret d, e1), s1)
def sFor (it : DenA S) (bd : PyData → Env → Option Env) (b : DenS S) : DenS S := fun e s => (it e s).bind fun (ds, s1) => sForL bd b ds e s1
end

/-! ## stores into slots -/
section
variable {c : Cfg} {K : PySem.W.Frag} {F0 G0 F : Hp} {σ : L2.St} {H : Hp} {env : Env} {st : c.I.S}
theorem get_set {α : Type} {l : List (Option α)} {i j : Nat} {x : Option α} {d : α} (h : (l.set i x)[j]? = some (some d)) : (j = i ∧ x = some d ∧ i < l.length) ∨ (j ≠ i ∧ l[j]? = some (some d)) := by
  by_cases e : j = i
  · subst e
    by_cases hl : j < l.length
    · rw [List.getElem?_set_self hl] at h; cases h; exact .inl ⟨rfl, rfl, hl⟩
    · rw [List.getElem?_eq_none (by rw [List.length_set]; omega)] at h; cases h
  · rw [List.getElem?_set_ne (fun z => e z.symm)] at h; exact .inr ⟨e, h⟩
def Cfg.free (c : Cfg) (i : Nat) : Prop := ∀ v, (i, v) ∉ c.fx
theorem Rel.fxset (R : Rel c K F0 G0 F σ H env st) {i : Nat} (hf : c.free i) (v : Option V) : ∀ j w, (j, w) ∈ c.fx → (σ.set i v)[j]? = some (some w) := fun j w h => by
  have ne : i ≠ j := fun e => by subst e; exact hf w h
  rw [List.getElem?_set_ne ne]
  exact R.fx j w h
theorem Rel.setV (R : Rel c K F0 G0 F σ H env st) {i : Nat} {v : V} {d : PyData} (hm : c.mu i = false) (hf : c.free i) (r : Rp K F v d) : Rel c K F0 G0 F (σ.set i (some v)) H (env.set i (some d)) st := by
  refine ⟨R.ext, R.src, R.fxset hf _, by rw [List.length_set, List.length_set]; exact R.len, fun j e h => ?_, fun j k p e e' hj hk h1 h2 h3 h4 => ?_⟩
  · rcases get_set h with ⟨rfl, q, hl⟩ | ⟨ne, h⟩
    · cases q
      exact ⟨v, List.getElem?_set_self (by rw [← R.len]; exact hl), by rw [if_neg (by rw [hm]; decide)]; exact r⟩
    · obtain ⟨w, hw, q⟩ := R.slot j e h
      exact ⟨w, by rw [List.getElem?_set_ne (fun z => ne z.symm)]; exact hw, q⟩
  · have nj : j ≠ i := fun z => by subst z; rw [hm] at hj; cases hj
    have nk : k ≠ i := fun z => by subst z; rw [hm] at hk; cases hk
    rw [List.getElem?_set_ne (fun z => nj z.symm)] at h1 h3
    rw [List.getElem?_set_ne (fun z => nk z.symm)] at h2 h4
    exact R.sep j k p e e' hj hk h1 h2 h3 h4
theorem Rel.setO (R : Rel c K F0 G0 F σ H env st) {i : Nat} {p : Addr} {o : HO} {d : PyData} (hm : c.mu i = true) (hf : c.free i) (g0 : G0 p = none) (fp : F p = none) (hp : c.mask H p = some o) (nd : Node K F o d)
    (ap : ∀ j e, j ≠ i → c.mu j = true → env[j]? = some (some e) → σ[j]? = some (some (.ref p)) → False) : Rel c K F0 G0 F (σ.set i (some (.ref p))) H (env.set i (some d)) st := by
  refine ⟨R.ext, R.src, R.fxset hf _, by rw [List.length_set, List.length_set]; exact R.len, fun j e h => ?_, fun j k q e e' hj hk h1 h2 h3 h4 => ?_⟩
  · rcases get_set h with ⟨rfl, q, hl⟩ | ⟨ne, h⟩
    · cases q
      exact ⟨.ref p, List.getElem?_set_self (by rw [← R.len]; exact hl), by rw [if_pos hm]; exact ⟨p, o, rfl, g0, fp, hp, nd⟩⟩
    · obtain ⟨w, hw, q⟩ := R.slot j e h
      exact ⟨w, by rw [List.getElem?_set_ne (fun z => ne z.symm)]; exact hw, q⟩
  · rcases get_set h1 with ⟨ej, q1, _⟩ | ⟨nj, h1⟩
    · rcases get_set h2 with ⟨ek, q2, _⟩ | ⟨nk, h2⟩
      · rw [ej, ek]
      · rcases get_set h3 with ⟨_, z, _⟩ | ⟨nj, _⟩
        · cases z
          rw [List.getElem?_set_ne (fun z => nk z.symm)] at h4
          exact (ap k e' nk hk h2 h4).elim
        · exact absurd ej nj
    · rw [List.getElem?_set_ne (fun z => nj z.symm)] at h3
      rcases get_set h2 with ⟨ek, q2, _⟩ | ⟨nk, h2⟩
      · rcases get_set h4 with ⟨_, z, _⟩ | ⟨nk, _⟩
        · cases z
          exact (ap j e nj hj h1 h3).elim
        · exact absurd ek nk
      · rw [List.getElem?_set_ne (fun z => nk z.symm)] at h4
        exact R.sep j k q e e' hj hk h1 h2 h3 h4
/-- a new object's address is no other slot's -/
theorem Rel.apart (R : Rel c K F0 G0 F σ H env st) {p : Addr} (n : c.mask H p = none) : ∀ j e, c.mu j = true → env[j]? = some (some e) → σ[j]? = some (some (.ref p)) → False := fun j e hj h1 h2 => by
  obtain ⟨v, hv, q⟩ := R.slot j e h1
  rw [if_pos hj] at q
  rw [h2] at hv
  obtain ⟨p', o, rfl, _, _, g, _⟩ := q
  cases hv
  rw [n] at g
  cases g
/-- the store into an object that a slot owns -/
theorem Rel.own (R : Rel c K F0 G0 F σ H env st) {i : Nat} {d : PyData} (hm : c.mu i = true) (h : env[i]? = some (some d)) : ∃ p o, σ[i]? = some (some (.ref p)) ∧ G0 p = none ∧ F p = none ∧ c.mask H p = some o ∧ H p = some o ∧ Node K F o d := by
  obtain ⟨v, hv, q⟩ := R.slot i d h
  rw [if_pos hm] at q
  obtain ⟨p, o, rfl, a, b, g, n⟩ := q
  exact ⟨p, o, hv, a, b, g, mask_le _ _ _ _ g, n⟩
theorem Rel.write (R : Rel c K F0 G0 F σ H env st) {i : Nat} {p : Addr} {o o' : HO} {d d' : PyData} (hm : c.mu i = true) (h : env[i]? = some (some d)) (hv : σ[i]? = some (some (.ref p))) (g0 : G0 p = none) (fp : F p = none) (hp : c.mask H p = some o) (nd : Node K F o' d') :
    Rel c K F0 G0 F σ (upd H p o') (env.set i (some d')) st := by
  have hh : c.I.hid p = false := by
    cases q : c.I.hid p with
    | false => rfl
    | true =>
      unfold Cfg.mask SrcI.mask at hp
      rw [q] at hp
      cases hp
  have mk : ∀ a, a ≠ p → c.mask (upd H p o') a = c.mask H a := fun a ne => by
    unfold Cfg.mask SrcI.mask
    rw [upd_ne ne]
  have mp : c.mask (upd H p o') p = some o' := by
    show c.I.mask _ p = _
    rw [mask_of _ hh]; exact upd_same
  have hl : i < env.length := (List.getElem?_eq_some_iff.mp h).1
  refine ⟨⟨R.ext.f, fun a u e => ?_, fun a u e => ?_, R.ext.old⟩, c.I.loc (fun a ha => upd_ne (fun z => by subst z; rw [hh] at ha; cases ha)) R.src, R.fx, by rw [List.length_set]; exact R.len, fun j e hj => ?_, fun j k q e e' hj hk h1 h2 h3 h4 => ?_⟩
  · rw [mk a (ne_of_none e g0)]; exact R.ext.g a u e
  · rw [mk a (ne_of_none e fp)]; exact R.ext.fg a u e
  · rcases get_set hj with ⟨rfl, q, _⟩ | ⟨ne, hj⟩
    · cases q
      exact ⟨_, hv, by rw [if_pos hm]; exact ⟨p, o', rfl, g0, fp, mp, nd⟩⟩
    · obtain ⟨w, hw, q⟩ := R.slot j e hj
      refine ⟨w, hw, ?_⟩
      split at q
      · rename_i mj
        rw [if_pos mj]
        obtain ⟨p', u, rfl, a, b, g, n⟩ := q
        have np : p' ≠ p := fun z => by subst z; exact ne (R.sep j i p' e d mj hm hj h hw hv)
        exact ⟨p', u, rfl, a, b, by rw [mk p' np]; exact g, n⟩
      · rename_i mj
        rw [if_neg mj]
        exact q
  · have old : ∀ {k : Nat} {e : PyData}, (env.set i (some d'))[k]? = some (some e) → ∃ e2, env[k]? = some (some e2) := fun {k e} z => by
      rcases get_set z with ⟨rfl, _, _⟩ | ⟨_, z⟩
      · exact ⟨d, h⟩
      · exact ⟨e, z⟩
    obtain ⟨e1, z1⟩ := old h1
    obtain ⟨e2, z2⟩ := old h2
    exact R.sep j k q e1 e2 hj hk z1 z2 h3 h4
end

/-! ## rules: blocks -/
section
variable {X : Cx} {c : Cfg} {s : Stmt} {rest : List Stmt} {g h : DenS c.I.S} {e : Expr} {f : Den c.I.S} {pos : Pos}
theorem pds_nil : PDs X c [] sSkip := pss_nil.imp fun D σ H ⟨F0, G0, F, env, st, fl, env', st', R, hf, q⟩ => by
  cases hf
  exact q F σ H (Same.refl _) R
theorem pds_cons (h1 : PD X c s g) (h2 : PDs X c rest h) : PDs X c (s :: rest) (sSeq g h) := (pss_cons h1 h2).imp fun D σ H ⟨F0, G0, F, env, st, fl, env', st', R, hf, q⟩ => by
  unfold sSeq at hf
  obtain ⟨⟨⟨f1, e1⟩, s1⟩, h1, hf1⟩ := Option.bind_eq_some_iff.mp hf
  clear hf
  refine ⟨F0, G0, F, env, st, f1, e1, s1, R, h1, ?_⟩
  cases f1 with
  | nx => exact fun F' σ' H' x R1 => ⟨F0, G0, F', e1, s1, fl, env', st', R1, hf1, q.from x⟩
  | bk => cases hf1; exact q
  | ct => cases hf1; exact q
  | ret d => cases hf1; exact q
theorem pds_one (h1 : PD X c s g) : PDs X c [s] g := pss_one h1
theorem pd_ret (he : PV X c e f) : PD X c (.Return (some e) pos) (sRet f) := (ps_ret he).imp fun D σ H ⟨F0, G0, F, env, st, fl, env', st', R, hf, q⟩ => by
  unfold sRet at hf
  obtain ⟨⟨d, s1⟩, h1, hf1⟩ := Option.bind_eq_some_iff.mp hf
  cases hf1
  exact ⟨F0, G0, F, env, st, d, _, R, h1, fun F' H' v x ok r => q F' H' v (R.ext.trans x) ok r⟩
theorem pd_retN : PD X c (.Return none pos) (sRet (dC .none)) := ps_retN.imp fun D σ H ⟨F0, G0, F, env, st, fl, env', st', R, hf, q⟩ => by
  cases hf
  exact q F H .non R.ext R.src .non
theorem pd_if {t : Expr} {a b : List Stmt} {ft : DenB c.I.S} (ht : PB X c t ft) (ha : PDs X c a g) (hb : PDs X c b h) : PD X c (.If t a b pos) (sIf ft g h) := (ps_if ht ha hb).imp fun D σ H ⟨F0, G0, F, env, st, fl, env', st', R, hf, q⟩ => by
  unfold sIf at hf
  obtain ⟨⟨k, s1⟩, h1, hf1⟩ := Option.bind_eq_some_iff.mp hf
  clear hf
  refine ⟨F0, G0, F, env, st, k, s1, R, h1, fun F1 H1 x ok => ?_⟩
  have R1 := R.step x ok
  cases k with
  | true => simp only [reduceIte] at hf1 ⊢; exact ⟨F0, G0, F1, env, s1, fl, env', st', R1, hf1, q.from x.f⟩
  | false => simp only [reduceIte, Bool.false_eq_true] at hf1 ⊢; exact ⟨F0, G0, F1, env, s1, fl, env', st', R1, hf1, q.from x.f⟩
theorem pd_drop (he : PP X c e f) (hs : swapsWith e none pos.line X.env = pure false := by rfl) : PD X c (.Expr e pos) (sDrop f) := (ps_expr he hs).imp fun D σ H ⟨F0, G0, F, env, st, fl, env', st', R, hf, q⟩ => by
  unfold sDrop at hf
  obtain ⟨⟨d, s1⟩, h1, hf1⟩ := Option.bind_eq_some_iff.mp hf
  cases hf1
  exact ⟨F0, G0, F, env, st, d, _, R, h1, fun F' H' v x ok r => q F' σ H' x.f (R.step x ok)⟩
theorem pd_cont : PD X c (.Continue pos) (fun e s => some ((.ct, e), s)) := ps_continue.imp fun D σ H ⟨F0, G0, F, env, st, fl, env', st', R, hf, q⟩ => by
  cases hf
  exact q F σ H (Same.refl _) R
theorem pd_break : PD X c (.Break pos) (fun e s => some ((.bk, e), s)) := ps_break.imp fun D σ H ⟨F0, G0, F, env, st, fl, env', st', R, hf, q⟩ => by
  cases hf
  exact q F σ H (Same.refl _) R
theorem pd_pass : PD X c (.Pass pos) sSkip := ps_pass.imp fun D σ H ⟨F0, G0, F, env, st, fl, env', st', R, hf, q⟩ => by
  cases hf
  exact q F σ H (Same.refl _) R

/-! ## rules: stores -/
theorem set_of {K : PySem.W.Frag} {i : Nat} (hm : c.mu i = false) (hf : c.free i) : ∀ D σ H, tS K c (sSet i f) D σ H → tAsg (tV K c f) (gName i) D σ H := fun D σ H ⟨F0, G0, F, env, st, fl, env', st', R, hg, q⟩ => by
  unfold sSet at hg
  obtain ⟨⟨d, s1⟩, h1, hf1⟩ := Option.bind_eq_some_iff.mp hg
  cases hf1
  exact ⟨F0, G0, F, env, st, d, _, R, h1, fun F' H' v x ok r => q F' _ H' x.f ((R.step x ok).setV hm hf r)⟩
theorem setN_of {K : PySem.W.Frag} {i : Nat} (hm : c.mu i = true) (hf : c.free i) : ∀ D σ H, tS K c (sSet i f) D σ H → tAsg (tN K c f) (gName i) D σ H := fun D σ H ⟨F0, G0, F, env, st, fl, env', st', R, hg, q⟩ => by
  unfold sSet at hg
  obtain ⟨⟨d, s1⟩, h1, hf1⟩ := Option.bind_eq_some_iff.mp hg
  cases hf1
  refine ⟨F0, G0, F, env, st, d, _, R, h1, fun F' H' v x ok ⟨p, o, ev, n, nf, gp, nd⟩ => ?_⟩
  subst ev
  have R1 := R.step x ok
  refine q F' _ H' x.f (R1.setO hm hf (R.ext.g.free n) nf gp nd fun j e ne mj h1 h2 => R.apart n j e mj h1 h2)
theorem pd_set {i : Nat} {x : Str} {pos' : Pos} (hN : X.N.Nodup) (hi : X.N[i]? = some x) (hx : Loc X.env.scope x) (he : PV X c e f) (hm : c.mu i = false := by rfl) (hfx : c.free i := by (intro _ h; simp [Cfg.fx] at h)) (hs : swapsWith e (some (.Name x pos')) pos.line X.env = pure false := by rfl)
    (hf : X.fn x = true ∨ X.env.scope.names.lookup x = some .local := by first | exact .inl rfl | exact .inr rfl) : PD X c (.Assign [.Name x pos'] e pos) (sSet i f) := (ps_set hN hi hx he hs hf).imp (set_of hm hfx)
theorem pd_setN {i : Nat} {x : Str} {pos' : Pos} (hN : X.N.Nodup) (hi : X.N[i]? = some x) (hx : Loc X.env.scope x) (he : PN X c e f) (hm : c.mu i = true := by rfl) (hfx : c.free i := by (intro _ h; simp [Cfg.fx] at h)) (hs : swapsWith e (some (.Name x pos')) pos.line X.env = pure false := by rfl)
    (hf : X.fn x = true ∨ X.env.scope.names.lookup x = some .local := by first | exact .inl rfl | exact .inr rfl) : PD X c (.Assign [.Name x pos'] e pos) (sSet i f) := (ps_set hN hi hx he hs hf).imp (setN_of hm hfx)
end
end DL

set_option Elab.async false
set_option linter.all false
set_option maxRecDepth 100000
namespace DL
open PySem PySem.Spec PyProof.Rows L2

/-! ## while -/
section
variable {X : Cx} {c : Cfg} {pos : Pos} {g h : DenS c.I.S} {ft : DenB c.I.S}
theorem pd_while (n : Nat) {t : Expr} {b : List Stmt} (hp : PassesOwn (model X.prog X.w) X.A X.env X.xe) (ht : PB X c t ft) (hb : PDs X c b g) : PD X c (.While t b [] pos) (sWhile n ft g) := (ps_while hp ht hb).imp fun D σ H ⟨F0, G0, F, env, st, fl, env', st', R, hf, q⟩ => by
  refine ⟨fun m σ H => ∃ F1 env1 st1, Same F F1 ∧ Rel c X.K F0 G0 F1 σ H env1 st1 ∧ sWhile m ft g env1 st1 = some ((fl, env'), st'), ⟨n, F, env, st, Same.refl _, R, hf⟩, ?_⟩
  rintro m σ1 H1 ⟨F1, env1, st1, x1, R1, hf1⟩
  cases m with
  | zero => cases hf1
  | succ m =>
    unfold sWhile at hf1
    obtain ⟨⟨k, s2⟩, h1, hf2⟩ := Option.bind_eq_some_iff.mp hf1
    clear hf1
    refine ⟨F0, G0, F1, env1, st1, k, s2, R1, h1, fun F2 H2 x2 ok2 => ?_⟩
    have R2 := R1.step x2 ok2
    have e2 := x1.trans x2.f
    cases k with
    | false =>
      simp only [reduceIte, Bool.false_eq_true] at hf2 ⊢
      cases hf2
      exact q F2 _ H2 e2 R2
    | true =>
      simp only [reduceIte] at hf2 ⊢
      refine ⟨fun σ' H' => ∃ F1 env1 st1, Same F F1 ∧ Rel c X.K F0 G0 F1 σ' H' env1 st1 ∧ sWhile m ft g env1 st1 = some ((fl, env'), st'), fun σ' H' w => ⟨m, Nat.lt_succ_self _, w⟩, ?_⟩
      obtain ⟨⟨⟨f3, e3⟩, s3⟩, h3, hf3⟩ := Option.bind_eq_some_iff.mp hf2
      clear hf2
      refine ⟨F0, G0, F2, env1, s2, f3, e3, s3, R2, h3, ?_⟩
      cases f3 with
      | nx => exact fun F' σ' H' x R' => ⟨F', e3, s3, e2.trans x, R', hf3⟩
      | ct => exact fun F' σ' H' x R' => ⟨F', e3, s3, e2.trans x, R', hf3⟩
      | bk => cases hf3; exact fun F' σ' H' x R' => q F' σ' H' (e2.trans x) R'
      | ret d => cases hf3; exact q
end

/-! ## what is walked -/
def Yields (K : PySem.W.Frag) (F G : Hp) (P : Hp → Prop) (J : It) (ds : List PyData) : Prop := ∀ F1 H1 i, Same F F1 → Same G H1 → Same F1 H1 → P H1 →
  (∀ d, ds[i]? = some d → J.go i H1 ∧ ∀ x H2, J.yld i H1 x H2 → ∃ F2, Ext F1 H1 F2 H2 ∧ Rp K F2 x d) ∧ (ds.length ≤ i → J.stop i H1)
theorem Yields.of {K : PySem.W.Frag} {F G G' : Hp} {P : Hp → Prop} {J : It} {ds : List PyData} (h : Yields K F G P J ds) (g : ∀ F1 H1, Same F F1 → Same G' H1 → Same F1 H1 → Same G H1) : Yields K F G' P J ds :=
  fun F1 H1 i a b d => h F1 H1 i a (g F1 H1 a b d) d
section
variable (K : PySem.W.Frag) (c : Cfg)
def tI (f : DenA c.I.S) : TI := fun σ H R => ∃ F0 G0 F env st ds st', Rel c K F0 G0 F σ H env st ∧ f env st = some (ds, st') ∧
  ∀ F' H' J, Ext F (c.mask H) F' (c.mask H') → c.I.ok st' H' → Yields K F' F' (fun H => ∃ s, c.I.ok s H) J ds → R J H'
def tIP (f : DenA c.I.S) : TI := fun σ H R => ∃ F0 G0 F env st ds st', Rel c K F0 G0 F σ H env st ∧ f env st = some (ds, st') ∧
  ∀ F' H' J, Ext F (c.mask H) F' (c.mask H') → c.I.ok st' H' → Yields K F' (c.mask H') (fun H => ∃ s, c.I.ok s H) J ds → R J H'
end
theorem _root_.L2.PI.imp {X : Cx} {tg e : Expr} {t t' : TI} (h : PI X tg e t) (m : ∀ σ H Q, t' σ H Q → t σ H Q) : PI X tg e t' := ⟨fun pins s σ H Q I q => h.run pins s σ H Q I (m σ H Q q)⟩
theorem _root_.L2.PI.or {X : Cx} {tg e : Expr} {t t' : TI} (h : PI X tg e t) (h' : PI X tg e t') : PI X tg e (fun σ H R => t σ H R ∨ t' σ H R) := ⟨fun pins s σ H Q I q => by
  rcases q with q | q
  · exact h.run pins s σ H Q I q
  · exact h'.run pins s σ H Q I q⟩
abbrev PIv (X : Cx) (c : Cfg) (tg e : Expr) (f : DenA c.I.S) : Prop := PI X tg e (tI X.K c f)
abbrev PIp (X : Cx) (c : Cfg) (tg e : Expr) (f : DenA c.I.S) : Prop := PI X tg e (tIP X.K c f)
theorem PIv.p {X : Cx} {c : Cfg} {tg e : Expr} {f : DenA c.I.S} (h : PIv X c tg e f) : PIp X c tg e f := h.imp fun σ H R ⟨F0, G0, F, env, st, ds, st', Rr, hf, q⟩ =>
  ⟨F0, G0, F, env, st, ds, st', Rr, hf, fun F' H' J x ok y => q F' H' J x ok (y.of fun _ _ a _ d => a.trans d)⟩
/-- the items of a list or a tuple -/
def itemsD : PyData → Option (List PyData)
  | .list ds => some ds
  | .tuple ds => some ds
  | _ => none
def dItems {S : Type} (f : Den S) : DenA S := fun e s => (f e s).bind fun (a, s1) => (itemsD a).map fun ds => (ds, s1)
theorem seqL_inj {K : PySem.W.Frag} {H : Hp} {a : Addr} {xs : List V} (h : H a = some (.lst xs)) : SqL K H a xs := .inl (.inl h)
theorem seqT_inj {K : PySem.W.Frag} {H : Hp} {a : Addr} {xs : List V} (h : H a = some (.tup xs)) : SqT K H a xs := .inl (.inl h)
theorem yields_lst {K : PySem.W.Frag} {F G : Hp} {P : Hp → Prop} {a : Addr} {xs : List V} {ds : List PyData} (h : G a = some (.lst xs)) (r : RpAll K F xs ds) : Yields K F G P (Itl K a) ds := fun F1 H1 i x y z _ => by
  have hl : SqL K H1 a xs := seqL_inj (y _ _ h)
  have r1 := r.mono x
  refine ⟨fun d hd => ?_, fun hi => ⟨xs, hl, by rw [r.length]; exact hi⟩⟩
  obtain ⟨v, hv, rv⟩ := r1.get hd
  refine ⟨⟨xs, v, hl, hv⟩, fun w H2 ⟨e, q⟩ => ?_⟩
  subst e
  have := q xs hl
  rw [hv] at this
  cases this
  exact ⟨F1, Ext.refl z, rv⟩
theorem yields_tup {K : PySem.W.Frag} {F G : Hp} {P : Hp → Prop} {a : Addr} {xs : List V} {ds : List PyData} (h : G a = some (.tup xs)) (r : RpAll K F xs ds) : Yields K F G P (Itt K a) ds := fun F1 H1 i x y z _ => by
  have hl : SqT K H1 a xs := seqT_inj (y _ _ h)
  have r1 := r.mono x
  refine ⟨fun d hd => ?_, fun hi => ⟨xs, hl, by rw [r.length]; exact hi⟩⟩
  obtain ⟨v, hv, rv⟩ := r1.get hd
  refine ⟨⟨xs, v, hl, hv⟩, fun w H2 ⟨e, q⟩ => ?_⟩
  subst e
  have := q xs hl
  rw [hv] at this
  cases this
  exact ⟨F1, Ext.refl z, rv⟩
section
variable {X : Cx} {c : Cfg} {tg e : Expr} {f : Den c.I.S} {fs : DenA c.I.S}
theorem items_inv {st st' : c.I.S} {env : Env} {ds : List PyData} (h : dItems f env st = some (ds, st')) : ∃ d, f env st = some (d, st') ∧ (d = .list ds ∨ d = .tuple ds) := by
  unfold dItems at h
  obtain ⟨⟨x, s1⟩, h1, h⟩ := Option.bind_eq_some_iff.mp h
  obtain ⟨d', h2, h⟩ := Option.map_eq_some_iff.mp h
  cases h
  refine ⟨x, h1, ?_⟩
  unfold itemsD at h2
  split at h2
  · cases h2; exact .inl rfl
  · cases h2; exact .inr rfl
  · cases h2
theorem pip_seq (h : PP X c e f) : PIp X c tg e (dItems f) := (PI.or (pi_list h) (pi_tup h)).imp fun σ H R ⟨F0, G0, F, env, st, ds, st', Rr, hf, q⟩ => by
  obtain ⟨d, h1, hd⟩ := items_inv hf
  rcases hd with rfl | rfl
  · refine .inl ⟨F0, G0, F, env, st, _, st', Rr, h1, fun F' H' v x ok sv => ?_⟩
    obtain ⟨a, xs, rfl, ha, r⟩ := sv.list x.fg
    exact ⟨a, rfl, ⟨xs, seqL_inj (mask_le _ _ _ _ ha)⟩, q F' H' _ x ok (yields_lst ha r)⟩
  · refine .inr ⟨F0, G0, F, env, st, _, st', Rr, h1, fun F' H' v x ok sv => ?_⟩
    obtain ⟨a, xs, rfl, ha, r⟩ := sv.tuple
    exact ⟨a, rfl, ⟨xs, seqT_inj ((x.fg.trans (mask_le _ _)) _ _ ha)⟩, q F' H' _ x ok (yields_tup (x.fg _ _ ha) r)⟩
theorem piv_seq (h : PV X c e f) : PIv X c tg e (dItems f) := (PI.or (pi_list h) (pi_tup h)).imp fun σ H R ⟨F0, G0, F, env, st, ds, st', Rr, hf, q⟩ => by
  obtain ⟨d, h1, hd⟩ := items_inv hf
  rcases hd with rfl | rfl
  · refine .inl ⟨F0, G0, F, env, st, _, st', Rr, h1, fun F' H' v x ok sv => ?_⟩
    cases sv with
    | lst ha r => exact ⟨_, rfl, ⟨_, seqL_inj ((x.fg.trans (mask_le _ _)) _ _ ha)⟩, q F' H' _ x ok (yields_lst ha r)⟩
  · refine .inr ⟨F0, G0, F, env, st, _, st', Rr, h1, fun F' H' v x ok sv => ?_⟩
    cases sv with
    | tup ha r => exact ⟨_, rfl, ⟨_, seqT_inj ((x.fg.trans (mask_le _ _)) _ _ ha)⟩, q F' H' _ x ok (yields_tup ha r)⟩
end
/-- range: its ints -/
def rng (lo : Int) (n : Nat) : List PyData := (List.range n).map fun (k : Nat) => .int (lo + (k : Int))
def rngC (lo c : Int) (n : Nat) : List PyData := (List.range n).map fun (k : Nat) => .int (lo + (k : Int) * c)
def range1 : PyData → Option (List PyData)
  | .int n => if -(2 ^ 62) ≤ n ∧ n < 2 ^ 62 then some (rng 0 n.toNat) else none
  | _ => none
def range2 : PyData → PyData → Option (List PyData)
  | .int a, .int b => if -(2 ^ 62) ≤ a ∧ a < 2 ^ 62 ∧ -(2 ^ 62) ≤ b ∧ b < 2 ^ 62 then some (rng a (b - a).toNat) else none
  | _, _ => none
def range3 : PyData → PyData → PyData → Option (List PyData)
  | .int a, .int b, .int c => if c ≠ 0 ∧ c.natAbs < 1073741824 ∧ Builtin.Range.small a b c = true ∧ 0 ≤ Builtin.Range.rangeSize a b c then some (rngC a c (Builtin.Range.rangeSize a b c).toNat) else none
  | _, _, _ => none
def dRange1 {S : Type} (f : Den S) : DenA S := fun e s => (f e s).bind fun (a, s1) => (range1 a).map fun ds => (ds, s1)
def dRange2 {S : Type} (f g : Den S) : DenA S := fun e s => (f e s).bind fun (a, s1) => (g e s1).bind fun (b, s2) => (range2 a b).map fun ds => (ds, s2)
def dRange3 {S : Type} (f g h : Den S) : DenA S := fun e s => (f e s).bind fun (a, s1) => (g e s1).bind fun (b, s2) => (h e s2).bind fun (c, s3) => (range3 a b c).map fun ds => (ds, s3)
theorem yields_rng {K : PySem.W.Frag} {F G : Hp} {P : Hp → Prop} (lo : Int) (n : Nat) : Yields K F G P (Itr lo n) (rng lo n) := fun F1 H1 i x y z _ => by
  unfold rng
  refine ⟨fun d hd => ?_, fun hi => ?_⟩
  · rw [List.getElem?_map] at hd
    obtain ⟨k, hk, rfl⟩ := Option.map_eq_some_iff.mp hd
    obtain ⟨hl, e⟩ := List.getElem?_eq_some_iff.mp hk
    rw [List.getElem_range] at e
    subst e
    rw [List.length_range] at hl
    refine ⟨hl, fun w H2 ⟨e, q⟩ => ?_⟩
    subst e; subst q
    exact ⟨F1, Ext.refl z, .int _⟩
  · rw [List.length_map, List.length_range] at hi; exact hi
theorem yields_rngC {K : PySem.W.Frag} {F G : Hp} {P : Hp → Prop} (lo c : Int) (n : Nat) : Yields K F G P (Itc lo c n) (rngC lo c n) := fun F1 H1 i x y z _ => by
  unfold rngC
  refine ⟨fun d hd => ?_, fun hi => ?_⟩
  · rw [List.getElem?_map] at hd
    obtain ⟨k, hk, rfl⟩ := Option.map_eq_some_iff.mp hd
    obtain ⟨hl, e⟩ := List.getElem?_eq_some_iff.mp hk
    rw [List.getElem_range] at e
    subst e
    rw [List.length_range] at hl
    refine ⟨hl, fun w H2 ⟨e, q⟩ => ?_⟩
    subst e; subst q
    exact ⟨F1, Ext.refl z, .int _⟩
  · rw [List.length_map, List.length_range] at hi; exact hi
section
variable {X : Cx} {c : Cfg} {tg e a b d : Expr} {f f1 f2 f3 : Den c.I.S} {fs : DenA c.I.S} {p pos : Pos}
theorem range1_inv {x : PyData} {ds : List PyData} (h : range1 x = some ds) : ∃ n : Int, x = .int n ∧ -(2 ^ 62) ≤ n ∧ n < 2 ^ 62 ∧ ds = rng 0 n.toNat := by
  unfold range1 at h
  split at h
  · split at h
    · rename_i n q; cases h; exact ⟨n, rfl, q.1, q.2, rfl⟩
    · cases h
  · cases h
theorem range2_inv {x y : PyData} {ds : List PyData} (h : range2 x y = some ds) : ∃ a b : Int, x = .int a ∧ y = .int b ∧ (-(2 ^ 62) ≤ a ∧ a < 2 ^ 62 ∧ -(2 ^ 62) ≤ b ∧ b < 2 ^ 62) ∧ ds = rng a (b - a).toNat := by
  unfold range2 at h
  split at h
  · split at h
    · rename_i n m q; cases h; exact ⟨n, m, rfl, rfl, q, rfl⟩
    · cases h
  · cases h
theorem range3_inv {x y z : PyData} {ds : List PyData} (h : range3 x y z = some ds) : ∃ a b c : Int, x = .int a ∧ y = .int b ∧ z = .int c ∧ (c ≠ 0 ∧ c.natAbs < 1073741824 ∧ Builtin.Range.small a b c = true ∧ 0 ≤ Builtin.Range.rangeSize a b c) ∧ ds = rngC a c (Builtin.Range.rangeSize a b c).toNat := by
  unfold range3 at h
  split at h
  · split at h
    · rename_i n m k q; cases h; exact ⟨n, m, k, rfl, rfl, rfl, q, rfl⟩
    · cases h
  · cases h
theorem piv_range1 (hg : Gl X "range") (hm : X.mg "range" = none) (ha : PP X c a f) (hs : starEach [a] X.env = [(false, eval a X.env)] := by rfl) : PIv X c tg (.Call (.Name "range" p) [a] [] pos) (dRange1 f) :=
  (pi_range1 hg hm (pa_cons ha pa_nil hs) hs).imp fun σ H R ⟨F0, G0, F, env, st, ds, st', Rr, hf, q⟩ => by
    unfold dRange1 at hf
    obtain ⟨⟨x, s1⟩, h1, hf1⟩ := Option.bind_eq_some_iff.mp hf
    obtain ⟨d', h2, hf2⟩ := Option.map_eq_some_iff.mp hf1
    cases hf2
    obtain ⟨n, rfl, l1, l2, rfl⟩ := range1_inv h2
    refine ⟨F0, G0, F, env, st, _, _, Rr, h1, fun F' H' v x ok sv => ⟨n, by rw [sv.int], l1, l2, q F' H' _ x ok (yields_rng 0 n.toNat)⟩⟩
theorem piv_range2 (hg : Gl X "range") (hm : X.mg "range" = none) (ha : PP X c a f1) (hb : PP X c b f2) (hs : starEach [a, b] X.env = [(false, eval a X.env), (false, eval b X.env)] := by rfl) (hs2 : starEach [b] X.env = [(false, eval b X.env)] := by rfl) :
    PIv X c tg (.Call (.Name "range" p) [a, b] [] pos) (dRange2 f1 f2) :=
  (pi_range2 hg hm (pa_cons ha (pa_cons hb pa_nil hs2) (by rw [hs, hs2])) hs hs2).imp fun σ H R ⟨F0, G0, F, env, st, ds, st', Rr, hf, q⟩ => by
    unfold dRange2 at hf
    obtain ⟨⟨x, s1⟩, h1, hf1⟩ := Option.bind_eq_some_iff.mp hf
    obtain ⟨⟨y, s2⟩, h2, hf2⟩ := Option.bind_eq_some_iff.mp hf1
    obtain ⟨d', h3, hf3⟩ := Option.map_eq_some_iff.mp hf2
    cases hf3
    obtain ⟨m, n, rfl, rfl, l, rfl⟩ := range2_inv h3
    refine ⟨F0, G0, F, env, st, _, _, Rr, h1, fun F1 H1 v x1 ok1 sv => ?_⟩
    refine ⟨F0, G0, F1, env, _, _, _, Rr.step x1 ok1, h2, fun F2 H2 w x2 ok2 sw => ?_⟩
    exact ⟨m, n, by rw [sv.int, sw.int], l, q F2 H2 _ (x1.trans x2) ok2 (yields_rng _ _)⟩
theorem piv_range3 (hg : Gl X "range") (hm : X.mg "range" = none) (ha : PP X c a f1) (hb : PP X c b f2) (hd : PP X c d f3) (hs : starEach [a, b, d] X.env = (false, eval a X.env) :: starEach [b, d] X.env := by rfl) (hpl : (backTo pos (starEach [b, d] X.env)).any (·.1) = false := by rfl)
    (h1 : starEach [b, d] X.env = (false, eval b X.env) :: starEach [d] X.env := by rfl) (h2 : starEach [d] X.env = (false, eval d X.env) :: starEach [] X.env := by rfl) :
    PIv X c tg (.Call (.Name "range" p) [a, b, d] [] pos) (dRange3 f1 f2 f3) :=
  (pi_range3 hg hm (pa_cons ha (pa_cons hb (pa_cons hd pa_nil h2) h1) hs) hs hpl).imp fun σ H R ⟨F0, G0, F, env, st, ds, st', Rr, hf, q⟩ => by
    unfold dRange3 at hf
    obtain ⟨⟨x, s1⟩, h1, hf1⟩ := Option.bind_eq_some_iff.mp hf
    obtain ⟨⟨y, s2⟩, h2, hf2⟩ := Option.bind_eq_some_iff.mp hf1
    obtain ⟨⟨z, s3⟩, h3, hf3⟩ := Option.bind_eq_some_iff.mp hf2
    obtain ⟨d', h4, hf4⟩ := Option.map_eq_some_iff.mp hf3
    cases hf4
    obtain ⟨m, n, k, rfl, rfl, rfl, l, rfl⟩ := range3_inv h4
    refine ⟨F0, G0, F, env, st, _, _, Rr, h1, fun F1 H1 v x1 ok1 sv => ?_⟩
    have R1 := Rr.step x1 ok1
    refine ⟨F0, G0, F1, env, _, _, _, R1, h2, fun F2 H2 w x2 ok2 sw => ?_⟩
    refine ⟨F0, G0, F2, env, _, _, _, R1.step x2 ok2, h3, fun F3 H3 u x3 ok3 su => ?_⟩
    exact ⟨m, n, k, _, by rw [sv.int, sw.int, su.int], ⟨l.1, l.2.1, l.2.2.1, (Int.toNat_of_nonneg l.2.2.2).symm⟩, q F3 H3 _ ((x1.trans x2).trans x3) ok3 (yields_rngC _ _ _)⟩
end

/-! ## targets -/
/-- slots outside ns stand as before -/
def Chg (ns : List Nat) (σ σ' : L2.St) : Prop := σ'.length = σ.length ∧ ∀ i, i ∉ ns → σ'[i]? = σ[i]?
theorem Chg.refl (ns : List Nat) (σ : L2.St) : Chg ns σ σ := ⟨rfl, fun _ _ => rfl⟩
theorem Chg.set {i : Nat} {σ : L2.St} (v : Option V) : Chg [i] σ (σ.set i v) := ⟨List.length_set .., fun j h => by rw [List.getElem?_set_ne (fun z => h (by rw [z]; exact List.mem_singleton.mpr rfl))]⟩
theorem Chg.trans {ms ns : List Nat} {σ σ1 σ2 : L2.St} (a : Chg ms σ σ1) (b : Chg ns σ1 σ2) : Chg (ms ++ ns) σ σ2 := ⟨b.1.trans a.1, fun i h => (b.2 i fun z => h (List.mem_append_right _ z)).trans (a.2 i fun z => h (List.mem_append_left _ z))⟩
def gT (K : PySem.W.Frag) (c : Cfg) (ns : List Nat) (b : PyData → Env → Option Env) : TG := fun v σ H Q => ∃ F0 G0 F env st d env', Rel c K F0 G0 F σ H env st ∧ Rp K F v d ∧ b d env = some env' ∧ ∀ σ', Rel c K F0 G0 F σ' H env' st → Chg ns σ σ' → Q σ' H
def gTs (K : PySem.W.Frag) (c : Cfg) (ns : List Nat) (b : List PyData → Env → Option Env) : TGs := fun vs σ H Q => ∃ F0 G0 F env st ds env', Rel c K F0 G0 F σ H env st ∧ RpAll K F vs ds ∧ b ds env = some env' ∧ ∀ σ', Rel c K F0 G0 F σ' H env' st → Chg ns σ σ' → Q σ' H
theorem _root_.L2.PG.imp {X : Cx} {e : Expr} {t t' : TG} (h : PG X e t) (m : ∀ v σ H Q, t' v σ H Q → t v σ H Q) : PG X e t' := ⟨fun pins s σ H v u Q I r q => h.run pins s σ H v u Q I r (m v σ H Q q)⟩
theorem _root_.L2.PGs.imp {X : Cx} {e : List Expr} {t t' : TGs} (h : PGs X e t) (m : ∀ v σ H Q, t' v σ H Q → t v σ H Q) : PGs X e t' := ⟨fun pins s σ H v u Q I r q => h.run pins s σ H v u Q I r (m v σ H Q q)⟩
abbrev PGd (X : Cx) (c : Cfg) (ns : List Nat) (e : Expr) (b : PyData → Env → Option Env) : Prop := PG X e (gT X.K c ns b)
abbrev PGds (X : Cx) (c : Cfg) (ns : List Nat) (e : List Expr) (b : List PyData → Env → Option Env) : Prop := PGs X e (gTs X.K c ns b)
def bNm (i : Nat) : PyData → Env → Option Env := fun d e => some (e.set i (some d))
def bNil : List PyData → Env → Option Env
  | [], e => some e
  | _, _ => none
def bCons (b : PyData → Env → Option Env) (bs : List PyData → Env → Option Env) : List PyData → Env → Option Env
  | d :: ds, e => (b d e).bind fun e1 => bs ds e1
  | _, _ => none
def bTup (bs : List PyData → Env → Option Env) : PyData → Env → Option Env
  | .tuple ds, e => bs ds e
  | _, _ => none
section
variable {X : Cx} {c : Cfg} {e : Expr} {es : List Expr} {b : PyData → Env → Option Env} {bs : List PyData → Env → Option Env} {pos : Pos} {ns ms : List Nat}
theorem pgd_nm {i : Nat} {x : Str} (hN : X.N.Nodup) (hi : X.N[i]? = some x) (hx : Loc X.env.scope x) (hm : c.mu i = false := by rfl) (hfx : c.free i := by (intro _ h; simp [Cfg.fx] at h)) (hf : X.fn x = true ∨ X.env.scope.names.lookup x = some .local := by first | exact .inl rfl | exact .inr rfl) : PGd X c [i] (.Name x pos) (bNm i) :=
  (pg_name hN hi hx hf).imp fun v σ H Q ⟨F0, G0, F, env, st, d, env', R, r, hb, q⟩ => by
    cases hb
    exact q _ (R.setV hm hfx r) (Chg.set _)
theorem pgds_nil : PGds X c [] [] bNil := pgs_nil.imp fun v σ H Q ⟨F0, G0, F, env, st, d, env', R, r, hb, q⟩ => by
  cases r with
  | nil => cases hb; exact ⟨rfl, q σ R (Chg.refl _ _)⟩
  | cons a b => cases hb
theorem pgds_cons (h1 : PGd X c ms e b) (h2 : PGds X c ns es bs) (hs : (assignEach (e :: es) X.env).map (·.2) = assign e X.env :: (assignEach es X.env).map (·.2) := by rfl) : PGds X c (ms ++ ns) (e :: es) (bCons b bs) :=
  (pgs_cons h1 h2 hs).imp fun v σ H Q ⟨F0, G0, F, env, st, ds, env', R, r, hb, q⟩ => by
    cases r with
    | nil => cases hb
    | cons a r =>
      obtain ⟨e1, hb1, hb2⟩ := Option.bind_eq_some_iff.mp hb
      exact ⟨_, _, rfl, F0, G0, F, env, st, _, e1, R, a, hb1, fun σ' R' c1 => ⟨F0, G0, F, e1, st, _, env', R', r, hb2, fun σ'' R'' c2 => q σ'' R'' (c1.trans c2)⟩⟩
theorem pgd_tup {k : Nat} {n : Nat} (hc : X.calm = true) (h : PGds X c ns es bs) (hlen : ∀ ds e e', bs ds e = some e' → ds.length = n) (hn : (assignEach es X.env).length = n := by rfl) (hst : (assignEach es X.env).findIdx? (·.1) = none := by rfl) : PGd X c ns (.Tuple es k pos) (bTup bs) :=
  (pg_tup hc h hn hst).imp fun v σ H Q ⟨F0, G0, F, env, st, d, env', R, r, hb, q⟩ => by
    unfold bTup at hb
    split at hb
    · cases r with
      | tup ha ra => exact ⟨_, _, rfl, seqT_inj (R.fh _ _ ha), by rw [ra.length]; exact hlen _ _ _ hb, F0, G0, F, env, st, _, env', R, ra, hb, q⟩
    · cases hb
theorem len_nil : ∀ ds e e', bNil ds e = some e' → ds.length = 0 := fun ds e e' h => by
  cases ds with
  | nil => rfl
  | cons d ds => cases h
theorem len_cons {n : Nat} {b : PyData → Env → Option Env} {bs : List PyData → Env → Option Env} (h : ∀ ds e e', bs ds e = some e' → ds.length = n) : ∀ ds e e', bCons b bs ds e = some e' → ds.length = n + 1 := fun ds e e' q => by
  cases ds with
  | nil => cases q
  | cons d ds =>
    obtain ⟨e1, _, q2⟩ := Option.bind_eq_some_iff.mp q
    rw [List.length_cons, h ds e1 e' q2]
/-- target = e, the target of names -/
def sAsg {S : Type} (f : Den S) (b : PyData → Env → Option Env) : DenS S := fun e s => (f e s).bind fun (d, s1) => (b d e).map fun e1 => ((.nx, e1), s1)
theorem pd_asg {tg : Expr} {f : Den c.I.S} (he : PV X c e f) (hg : PGd X c ns tg b) (hs : swapsWithSole [tg] e pos.line X.env = pure false := by rfl) (hw : swappedStores [tg] e X.env = pure none := by rfl)
    (h1 : (assignEach [tg] X.env).map (·.2) = [assign tg X.env] := by rfl) : PD X c (.Assign [tg] e pos) (sAsg f b) := (ps_asg he hg hs hw h1).imp fun D σ H ⟨F0, G0, F, env, st, fl, env', st', R, hf, q⟩ => by
  unfold sAsg at hf
  obtain ⟨⟨d, s1⟩, h1, hf1⟩ := Option.bind_eq_some_iff.mp hf
  obtain ⟨e1, h2, hf2⟩ := Option.map_eq_some_iff.mp hf1
  cases hf2
  exact ⟨F0, G0, F, env, st, d, _, R, h1, fun F' H' v x ok r => ⟨F0, G0, F', env, _, d, _, R.step x ok, r, h2, fun σ' R' _ => q F' σ' H' x.f R'⟩⟩

/-! ## for -/
theorem pd_for {tg iter : Expr} {body : List Stmt} {fs : DenA c.I.S} {g : DenS c.I.S} (hp : PassesOwn (model X.prog X.w) X.A X.env X.xe) (hc : X.calm = true) (hi : PIv X c tg iter fs) (hg : PGd X c ns tg b) (hb : PDs X c body g)
    (hs : ∀ x, foldedSetIterable iter X.env x = pure x := by intro _; rfl) : PD X c (.For tg iter body [] pos) (sFor fs b g) := (ps_for hp hc hi hg hb hs).imp fun D σ H ⟨F0, G0, F, env, st, fl, env', st', R, hf, q⟩ => by
  unfold sFor at hf
  obtain ⟨⟨ds, s1⟩, h1, hf1⟩ := Option.bind_eq_some_iff.mp hf
  clear hf
  refine ⟨F0, G0, F, env, st, ds, s1, R, h1, fun FJ HJ J xJ okJ hy => ?_⟩
  have RJ := R.step xJ okJ
  refine ⟨fun i m σ H => m + i = ds.length ∧ ∃ F1 env1 st1, Same FJ F1 ∧ Rel c X.K F0 G0 F1 σ H env1 st1 ∧ sForL b g (ds.drop i) env1 st1 = some ((fl, env'), st'), ⟨ds.length, rfl, FJ, env, s1, Same.refl _, RJ, hf1⟩, ?_⟩
  rintro i m σ1 H1 ⟨hm, F1, env1, st1, x1, R1, hf2⟩
  obtain ⟨yg, ys⟩ := hy F1 H1 i x1 (x1.trans R1.fh) R1.fh ⟨_, R1.src⟩
  by_cases hi : i < ds.length
  · have hd : ds[i]? = some ds[i] := List.getElem?_eq_getElem hi
    rw [List.drop_eq_getElem_cons hi] at hf2
    unfold sForL at hf2
    obtain ⟨e2, hb2, hf3⟩ := Option.bind_eq_some_iff.mp hf2
    obtain ⟨⟨⟨f3, e3⟩, s3⟩, h3, hf4⟩ := Option.bind_eq_some_iff.mp hf3
    clear hf2 hf3
    obtain ⟨go, yl⟩ := yg _ hd
    refine .inr ⟨go, fun σ' H' => ∃ F1 env1 st1, Same FJ F1 ∧ Rel c X.K F0 G0 F1 σ' H' env1 st1 ∧ sForL b g (ds.drop (i + 1)) env1 st1 = some ((fl, env'), st'), fun σ' H' w => ⟨m - 1, by omega, by omega, w⟩, fun x H2 hx => ?_⟩
    obtain ⟨F2, x2, r2⟩ := yl x H2 hx
    have x2' := R1.masked x2
    have R2 := R1.step x2' (c.I.mono x2.g R1.src)
    have e12 := x1.trans x2.f
    refine ⟨F0, G0, F2, env1, st1, _, e2, R2, r2, hb2, fun σ2 R3 _ => ⟨F0, G0, F2, e2, st1, f3, e3, s3, R3, h3, ?_⟩⟩
    cases f3 with
    | nx => exact fun F' σ' H' x R' => ⟨F', e3, s3, e12.trans x, R', hf4⟩
    | ct => exact fun F' σ' H' x R' => ⟨F', e3, s3, e12.trans x, R', hf4⟩
    | bk => cases hf4; exact fun F' σ' H' x R' => q F' σ' H' (xJ.f.trans (e12.trans x)) R'
    | ret d => cases hf4; exact q
  · refine .inl ⟨ys (by omega), ?_⟩
    rw [List.drop_eq_nil_of_le (by omega)] at hf2
    cases hf2
    exact q F1 σ1 H1 (xJ.f.trans x1) R1
end
end DL

set_option Elab.async false
set_option linter.all false
set_option maxRecDepth 100000
namespace DL
open PySem PySem.Spec PyProof.Rows L2

/-! ## comprehensions -/
def wipeE (e : Env) : List Nat → Env
  | [] => e
  | v :: vs => (wipeE e vs).set v none
theorem wipeE_length (e : Env) : ∀ vs : List Nat, (wipeE e vs).length = e.length
  | [] => rfl
  | v :: vs => by show ((wipeE e vs).set v none).length = _; rw [List.length_set]; exact wipeE_length e vs
theorem wipeE_get {e : Env} {i : Nat} {d : PyData} : ∀ {vs : List Nat}, (wipeE e vs)[i]? = some (some d) → e[i]? = some (some d) ∧ i ∉ vs
  | [], h => ⟨h, fun q => by cases q⟩
  | v :: vs, h => by
    rcases get_set (show ((wipeE e vs).set v none)[i]? = some (some d) from h) with ⟨_, q, _⟩ | ⟨ne, q⟩
    · cases q
    · obtain ⟨a, b⟩ := wipeE_get (vs := vs) q
      exact ⟨a, fun z => by rcases List.mem_cons.mp z with z | z; exact ne z; exact b z⟩
theorem wipe_ne {σ : L2.St} {i : Nat} : ∀ {vs : List Nat}, i ∉ vs → (wipe σ vs)[i]? = σ[i]?
  | [], _ => rfl
  | v :: vs, h => by
    show ((wipe σ vs).set v none)[i]? = _
    rw [List.getElem?_set_ne (fun z => h (by rw [z]; exact List.mem_cons_self))]
    exact wipe_ne fun z => h (List.mem_cons_of_mem _ z)
theorem wipe_in {σ : L2.St} {i : Nat} : ∀ {vs : List Nat}, i ∈ vs → (wipe σ vs)[i]? = if i < σ.length then some none else none
  | [], h => by cases h
  | v :: vs, h => by
    show ((wipe σ vs).set v none)[i]? = _
    by_cases e : v = i
    · subst e
      rw [List.getElem?_set]
      simp [wipe_length]
    · rw [List.getElem?_set_ne e]
      rcases List.mem_cons.mp h with z | z
      · exact absurd z.symm e
      · exact wipe_in z
theorem wipe_chg {ns vs : List Nat} {σ σ2 : L2.St} (h : Chg ns (wipe σ vs) σ2) (s : ∀ i ∈ ns, i ∈ vs) : wipe σ2 vs = wipe σ vs := by
  apply List.ext_getElem?
  intro i
  have hl : σ2.length = σ.length := h.1.trans (wipe_length σ vs)
  by_cases hi : i ∈ vs
  · rw [wipe_in hi, wipe_in hi, hl]
  · rw [wipe_ne hi, h.2 i fun z => hi (s i z)]
def compL {S : Type} (vs : List Nat) (bd : PyData → Env → Option Env) (t : DenB S) (f : Den S) : List PyData → Env → S → Option (List PyData × S)
  | [], _, s => some ([], s)
  | d :: ds, e, s => (bd d (wipeE e vs)).bind fun e1 => (t e1 s).bind fun (k, s1) => if k = true then (f e1 s1).bind fun (y, s2) => (compL vs bd t f ds e s2).map fun (ys, s3) => (y :: ys, s3) else compL vs bd t f ds e s1
def dComp {S : Type} (vs : List Nat) (it : DenA S) (bd : PyData → Env → Option Env) (t : DenB S) (f : Den S) : Den S := fun e s => (it e s).bind fun (ds, s1) => (compL vs bd t f ds e s1).bind fun (ys, s2) => if ys.length ≤ sizeLine then some (.list ys, s2) else none
def dTrue {S : Type} : DenB S := fun _ s => some (true, s)
section
variable {c : Cfg} {K : PySem.W.Frag} {F0 G0 F : Hp} {σ : L2.St} {H : Hp} {env : Env} {st : c.I.S}
theorem Rel.wipe (R : Rel c K F0 G0 F σ H env st) {vs : List Nat} (hf : ∀ i ∈ vs, c.free i) : Rel c K F0 G0 F (L2.wipe σ vs) H (wipeE env vs) st := by
  refine ⟨R.ext, R.src, fun i v h => ?_, by rw [wipeE_length, wipe_length]; exact R.len, fun i d h => ?_, fun i j p d e hi hj h1 h2 h3 h4 => ?_⟩
  · have hn : i ∉ vs := fun z => hf i z v h
    rw [wipe_ne hn]; exact R.fx i v h
  · obtain ⟨a, b⟩ := wipeE_get h
    rw [wipe_ne b]; exact R.slot i d a
  · obtain ⟨a1, b1⟩ := wipeE_get h1
    obtain ⟨a2, b2⟩ := wipeE_get h2
    rw [wipe_ne b1] at h3
    rw [wipe_ne b2] at h4
    exact R.sep i j p d e hi hj a1 a2 h3 h4
/-- a store into an object that no slot owns -/
theorem Rel.side (R : Rel c K F0 G0 F σ H env st) {p : Addr} {o' : HO} (hh : c.I.hid p = false) (g0 : G0 p = none) (fp : F p = none) (ap : ∀ j e, c.mu j = true → env[j]? = some (some e) → σ[j]? = some (some (.ref p)) → False) : Rel c K F0 G0 F σ (upd H p o') env st := by
  have mk : ∀ a, a ≠ p → c.mask (upd H p o') a = c.mask H a := fun a ne => by
    unfold Cfg.mask SrcI.mask
    rw [upd_ne ne]
  refine ⟨⟨R.ext.f, fun a u e => ?_, fun a u e => ?_, R.ext.old⟩, c.I.loc (fun a ha => upd_ne (fun z => by subst z; rw [hh] at ha; cases ha)) R.src, R.fx, R.len, fun j e hj => ?_, R.sep⟩
  · rw [mk a (ne_of_none e g0)]; exact R.ext.g a u e
  · rw [mk a (ne_of_none e fp)]; exact R.ext.fg a u e
  · obtain ⟨w, hw, q⟩ := R.slot j e hj
    refine ⟨w, hw, ?_⟩
    split at q
    · rename_i mj
      rw [if_pos mj]
      obtain ⟨p', u, rfl, a, b, g, n⟩ := q
      have np : p' ≠ p := fun z => by subst z; exact ap j e mj hj hw
      exact ⟨p', u, rfl, a, b, by rw [mk p' np]; exact g, n⟩
    · rename_i mj
      rw [if_neg mj]
      exact q
end
theorem lc_of {K : PySem.W.Frag} {c : Cfg} {it : DenA c.I.S} {bd : PyData → Env → Option Env} {t : DenB c.I.S} {f : Den c.I.S} {vs ns : List Nat} (hs : ∀ i ∈ ns, i ∈ vs) (hf : ∀ i ∈ vs, c.free i) :
    ∀ σ H Q, tN K c (dComp vs it bd t f) σ H Q → tLc (tIP K c it) (gT K c ns bd) (tT K c t) (tV K c f) vs σ H Q := fun σ H Q ⟨F0, G0, F, env, st, d, st', R, hd, q⟩ => by
  unfold dComp at hd
  obtain ⟨⟨ds, s1⟩, h1, hd1⟩ := Option.bind_eq_some_iff.mp hd
  obtain ⟨⟨ys, s2⟩, h2, hl, e⟩ := bind_if (p := fun (a : List PyData × c.I.S) => a.1.length ≤ sizeLine) hd1
  cases e
  clear hd hd1
  refine ⟨F0, G0, F, env, st, ds, s1, R, h1, fun FJ HJ J xJ okJ hy D nD => ?_⟩
  have RJ := R.step xJ okJ
  have hD : c.I.hid D = false := RJ.hidF nD
  have mD : c.mask HJ D = none := (mask_le _ _).free nD
  have fD : FJ D = none := RJ.fh.free nD
  have gD : G0 D = none := RJ.ext.g.free mD
  have ap := RJ.apart mD
  have md : ∀ (H : Hp) (o : HO), c.mask (upd H D o) D = some o := fun H o => by show c.I.mask _ D = _; rw [mask_of _ hD]; exact upd_same
  -- Ext over a store at D
  have xD : ∀ {F1 H1 : Hp} {o : HO}, Ext FJ (c.mask HJ) F1 (c.mask H1) → F1 D = none → Ext FJ (c.mask HJ) F1 (c.mask (upd H1 D o)) := fun {F1 H1 o} x f1 => by
    refine ⟨x.f, fun a u e => ?_, fun a u e => ?_, x.old⟩
    · have ne : a ≠ D := ne_of_none e mD
      have z := x.g a u e
      unfold Cfg.mask SrcI.mask at z ⊢
      rw [upd_ne ne]; exact z
    · have ne : a ≠ D := ne_of_none e f1
      have z := x.fg a u e
      unfold Cfg.mask SrcI.mask at z ⊢
      rw [upd_ne ne]; exact z
  refine ⟨fun i m H1 => m + i = ds.length ∧ ∃ F1 st1 acc das rest, Ext FJ (c.mask HJ) F1 (c.mask H1) ∧ Rel c K F0 G0 F1 σ H1 env st1 ∧ F1 D = none ∧ H1 D = some (.lst acc) ∧ RpAll K F1 acc das ∧ compL vs bd t f (ds.drop i) env st1 = some (rest, s2) ∧ das ++ rest = ys,
    ⟨ds.length, rfl, FJ, s1, [], [], ys, xD (Ext.refl RJ.fg) fD, RJ.side hD gD fD ap, fD, upd_same, .nil, h2, rfl⟩, ?_⟩
  rintro i m H1 ⟨hm, F1, st1, acc, das, rest, x1, R1, f1, hacc, ra, hc1, hys⟩
  obtain ⟨yg, yst⟩ := hy F1 H1 i x1.f (x1.g.trans (mask_le _ _)) R1.fh ⟨_, R1.src⟩
  by_cases hi : i < ds.length
  · have hdi : ds[i]? = some ds[i] := List.getElem?_eq_getElem hi
    rw [List.drop_eq_getElem_cons hi] at hc1
    unfold compL at hc1
    obtain ⟨e2, hb2, hc2⟩ := Option.bind_eq_some_iff.mp hc1
    obtain ⟨⟨k, s3⟩, h3, hc3⟩ := Option.bind_eq_some_iff.mp hc2
    clear hc1 hc2
    obtain ⟨go, yl⟩ := yg _ hdi
    refine .inr ⟨go, fun H1 => ∃ F1 st1 acc das rest, Ext FJ (c.mask HJ) F1 (c.mask H1) ∧ Rel c K F0 G0 F1 σ H1 env st1 ∧ F1 D = none ∧ H1 D = some (.lst acc) ∧ RpAll K F1 acc das ∧ compL vs bd t f (ds.drop (i + 1)) env st1 = some (rest, s2) ∧ das ++ rest = ys,
      fun H' w => ⟨m - 1, by omega, by omega, w⟩, fun x H2 hx => ?_⟩
    obtain ⟨F2, x2, r2⟩ := yl x H2 hx
    have x2' := R1.masked x2
    have R2 := R1.step x2' (c.I.mono x2.g R1.src)
    have o2 : F2 D = none := (x2.old D _ hacc (fun _ z => by cases z)).trans f1
    have a2 : H2 D = some (.lst acc) := x2.g _ _ hacc
    refine ⟨F0, G0, F2, wipeE env vs, st1, _, e2, R2.wipe hf, r2, hb2, fun σ2 R3 c2 => ⟨wipe_chg c2 hs, ?_⟩⟩
    refine ⟨F0, G0, F2, e2, st1, k, s3, R3, h3, fun F4 H4 x4 ok4 => ?_⟩
    have R4 := R2.step x4 ok4
    have mD2 : c.mask H2 D = some (.lst acc) := by show c.I.mask _ D = _; rw [mask_of _ hD]; exact a2
    have o4 : F4 D = none := (x4.old D _ mD2 (fun _ z => by cases z)).trans o2
    have a4 : H4 D = some (.lst acc) := mask_le _ _ _ _ (x4.g _ _ mD2)
    have x14 := (x1.trans x2').trans x4
    cases k with
    | false =>
      simp only [reduceIte, Bool.false_eq_true] at hc3 ⊢
      exact ⟨F4, s3, acc, das, rest, x14, R4, o4, a4, ra.mono (x2.f.trans x4.f), hc3, hys⟩
    | true =>
      simp only [reduceIte] at hc3 ⊢
      obtain ⟨⟨y, s5⟩, h5, hc5⟩ := Option.bind_eq_some_iff.mp hc3
      obtain ⟨⟨ys', s6⟩, h6, e6⟩ := Option.map_eq_some_iff.mp hc5
      cases e6
      refine ⟨F0, G0, F4, e2, s3, y, s5, R3.step x4 ok4, h5, fun F5 H5 v x5 ok5 r5 => ?_⟩
      have R5 := R4.step x5 ok5
      have mD4 : c.mask H4 D = some (.lst acc) := x4.g _ _ mD2
      have o5 : F5 D = none := (x5.old D _ mD4 (fun _ z => by cases z)).trans o4
      have a5 : H5 D = some (.lst acc) := mask_le _ _ _ _ (x5.g _ _ mD4)
      have x15 := x14.trans x5
      have ra5 := ra.mono ((x2.f.trans x4.f).trans x5.f)
      refine ⟨acc, a5, ?_, F5, s5, acc ++ [v], das ++ [y], ys', xD x15 o5, R5.side hD gD o5 ap, o5, upd_same, ra5.append (.cons r5 .nil), h6, by rw [List.append_assoc]; exact hys⟩
      rw [ra.length]
      rw [← hys, List.length_append, List.length_cons] at hl
      omega
  · refine .inl ⟨yst (by omega), ?_⟩
    rw [List.drop_eq_nil_of_le (by omega)] at hc1
    cases hc1
    rw [List.append_nil] at hys
    subst hys
    have mD1 : c.mask H1 D = some (.lst acc) := by show c.I.mask _ D = _; rw [mask_of _ hD]; exact hacc
    exact q F1 H1 _ (xJ.trans x1) R1.src ⟨D, _, rfl, xJ.g.free mD, f1, mD1, .inl ⟨acc, _, rfl, rfl, ra⟩⟩
theorem _root_.L2.PTs.imp {X : Cx} {e : List Expr} {t t' : TT} (h : PTs X e t) (m : ∀ σ H Q, t' σ H Q → t σ H Q) : PTs X e t' := ⟨fun pins s σ H Q I q => h.run pins s σ H Q I (m σ H Q q)⟩
abbrev PTd (X : Cx) (c : Cfg) (ifs : List Expr) (t : DenB c.I.S) : Prop := PTs X ifs (tT X.K c t)
section
variable {X : Cx} {c : Cfg} {elt tg iter : Expr} {ifs : List Expr} {scope : Scope} {own : List (Str × Nat)} {pos : Pos} {it : DenA c.I.S} {bd : PyData → Env → Option Env} {t : DenB c.I.S} {f : Den c.I.S} {ns : List Nat}
theorem ptd_nil : PTd X c [] dTrue := pts_nil.imp fun σ H Q ⟨F0, G0, F, env, st, d, st', R, hf, q⟩ => by
  cases hf
  exact q F H (Ext.refl R.fg) R.src
theorem ptd_one {e : Expr} (h : PB X c e t) : PTd X c [e] t := pts_one h
theorem pn_lc (hc : X.calm = true) (hN : X.N.Nodup) (hi : PIp X c tg iter it) (ok : blkC X.N X.env.scope scope own = true)
    (hg : ∀ (s : Shared) (H : Hp) (C : Addr) (cl : List (Str × Addr)) (fp : List Addr), PGd (X.blk s H scope (compEnvC scope cl C X.env) fp) c ns tg bd) (ht : ∀ (s : Shared) (H : Hp) (C : Addr) (cl : List (Str × Addr)) (fp : List Addr), PTd (X.blk s H scope (compEnvC scope cl C X.env) fp) c ifs t)
    (he : ∀ (s : Shared) (H : Hp) (C : Addr) (cl : List (Str × Addr)) (fp : List Addr), PV (X.blk s H scope (compEnvC scope cl C X.env) fp) c elt f) (hsub : ∀ i ∈ ns, i ∈ own.map (·.2)) (hfr : ∀ i ∈ own.map (·.2), c.free i)
    (hs : ∀ x, foldedSetIterable iter X.env x = pure x := by intro _; rfl) : PN X c (.ListComp elt [⟨tg, iter, ifs, 0⟩] scope pos) (dComp (own.map (·.2)) it bd t f) :=
  (pe_lc hc hN hi (blkOk_by ok) hg ht he hs).imp (lc_of hsub hfr)
theorem pd_setLc {i : Nat} {y : Str} {py spos : Pos} (hc : X.calm = true) (hN : X.N.Nodup) (hy : X.N[i]? = some y) (hyl : X.env.scope.names.lookup y = some .local)
    (hsw : swapsWith (.ListComp elt [⟨tg, iter, ifs, 0⟩] scope pos) (some (.Name y py)) spos.line X.env = pure true) (hi : PIp X c tg iter it) (ok : blkC X.N X.env.scope scope own = true)
    (hg : ∀ (s : Shared) (H : Hp) (C : Addr) (cl : List (Str × Addr)) (fp : List Addr), PGd (X.blk s H scope (compEnvC scope cl C X.env) fp) c ns tg bd) (ht : ∀ (s : Shared) (H : Hp) (C : Addr) (cl : List (Str × Addr)) (fp : List Addr), PTd (X.blk s H scope (compEnvC scope cl C X.env) fp) c ifs t)
    (he : ∀ (s : Shared) (H : Hp) (C : Addr) (cl : List (Str × Addr)) (fp : List Addr), PV (X.blk s H scope (compEnvC scope cl C X.env) fp) c elt f) (hsub : ∀ i ∈ ns, i ∈ own.map (·.2)) (hfr : ∀ i ∈ own.map (·.2), c.free i)
    (hm : c.mu i = false := by rfl) (hfx : c.free i := by (intro _ h; simp [Cfg.fx] at h)) (hs : ∀ x, foldedSetIterable iter X.env x = pure x := by intro _; rfl) :
    PD X c (.Assign [.Name y py] (.ListComp elt [⟨tg, iter, ifs, 0⟩] scope pos) spos) (sSet i (dComp (own.map (·.2)) it bd t f)) :=
  (ps_setLc hc hN hy hyl hsw hi (blkOk_by ok) hg ht he hs).imp fun D σ H h => by
    obtain ⟨F0, G0, F, env, st, fl, env', st', R, hf, q⟩ := h
    have z := set_of (K := X.K) hm hfx D σ H ⟨F0, G0, F, env, st, fl, env', st', R, hf, q⟩
    obtain ⟨F0, G0, F, env, st, d, st2, R, hf, q⟩ := z
    exact lc_of hsub hfr σ H _ ⟨F0, G0, F, env, st, d, st2, R, hf, fun F' H' v x ok h => by
      obtain ⟨F2, x2, r⟩ := h.freeze x
      exact q F2 H' v x2 ok r⟩
theorem pd_setLcN {i : Nat} {y : Str} {py spos : Pos} (hc : X.calm = true) (hN : X.N.Nodup) (hy : X.N[i]? = some y) (hyl : X.env.scope.names.lookup y = some .local)
    (hsw : swapsWith (.ListComp elt [⟨tg, iter, ifs, 0⟩] scope pos) (some (.Name y py)) spos.line X.env = pure true) (hi : PIp X c tg iter it) (ok : blkC X.N X.env.scope scope own = true)
    (hg : ∀ (s : Shared) (H : Hp) (C : Addr) (cl : List (Str × Addr)) (fp : List Addr), PGd (X.blk s H scope (compEnvC scope cl C X.env) fp) c ns tg bd) (ht : ∀ (s : Shared) (H : Hp) (C : Addr) (cl : List (Str × Addr)) (fp : List Addr), PTd (X.blk s H scope (compEnvC scope cl C X.env) fp) c ifs t)
    (he : ∀ (s : Shared) (H : Hp) (C : Addr) (cl : List (Str × Addr)) (fp : List Addr), PV (X.blk s H scope (compEnvC scope cl C X.env) fp) c elt f) (hsub : ∀ i ∈ ns, i ∈ own.map (·.2)) (hfr : ∀ i ∈ own.map (·.2), c.free i)
    (hm : c.mu i = true := by rfl) (hfx : c.free i := by (intro _ h; simp [Cfg.fx] at h)) (hs : ∀ x, foldedSetIterable iter X.env x = pure x := by intro _; rfl) :
    PD X c (.Assign [.Name y py] (.ListComp elt [⟨tg, iter, ifs, 0⟩] scope pos) spos) (sSet i (dComp (own.map (·.2)) it bd t f)) :=
  (ps_setLc hc hN hy hyl hsw hi (blkOk_by ok) hg ht he hs).imp fun D σ H h => by
    obtain ⟨F0, G0, F, env, st, fl, env', st', R, hf, q⟩ := h
    have z := setN_of (K := X.K) hm hfx D σ H ⟨F0, G0, F, env, st, fl, env', st', R, hf, q⟩
    exact lc_of hsub hfr σ H _ z
end
end DL

set_option Elab.async false
set_option linter.all false
set_option maxRecDepth 100000
namespace DL
open PySem PySem.Spec PyProof.Rows L2

/-! ## what a def promises where no repr is under way -/
abbrev SpG := List V → Hp → VK → Prop
structure FnG (P : Program) (w : World) (K : PySem.W.Frag) (mg : Str → Option Value) (base : Heap) (k : Nat) (f : Addr) (fd : FuncData) (ps : List Str) (sp : SpG) : Prop where
  len : ∀ vs H Q, sp vs H Q → vs.length = ps.length
  run : ∀ (A : Around) (outer : List PySem.Env) (s : Shared) (H : Hp) (args : Args) (us : List Value) (vs : List V) (Q : VK), A.guards = some [] → Room k A → Env0 P w K mg base A outer s H →
    BindsTo s fd args (ps.zip us) → Vals vs us → sp vs H Q → codeAny (model P w) A (.call (.ref f) args) (CR CX0 outer P w H s Q E0) s
section
variable {P : Program} {w : World} {K : PySem.W.Frag} {mg : Str → Option Value} {base : Heap} {k : Nat} {f : Addr} {fd : FuncData} {ps N : List Str} {sp : SpG}
theorem FnG.mono {j : Nat} (F : FnG P w K mg base j f fd ps sp) (h : j ≤ k) : FnG P w K mg base k f fd ps sp := ⟨F.len, fun A outer s H args us vs Q hg hr => F.run A outer s H args us vs Q hg (hr.mono h)⟩
theorem FnG.imp {sp' : SpG} (F : FnG P w K mg base k f fd ps sp) (h : ∀ vs H Q, sp' vs H Q → sp vs H Q) : FnG P w K mg base k f fd ps sp' :=
  ⟨fun vs H Q q => F.len vs H Q (h _ _ _ q), fun A outer s H args us vs Q hg hr he hb hv hs => F.run A outer s H args us vs Q hg hr he hb hv (h _ _ _ hs)⟩
/-- a def by its body -/
theorem FnG.of {x qual : Str} {st : Stmt} (F : Fun K x qual st f fd) (S : FnScope N ps (defScope st)) (len : ∀ vs H Q, sp vs H Q → vs.length = ps.length)
    (hbody : ∀ (cdv : Value) (A : Around) (outer : List PySem.Env) (s : Shared) (H : Hp) (vs : List V) (Q : VK), (A.deeper (envOfC qual (defScope st) s.heap.objs.size f cdv)).guards = some [] → Room k (A.deeper (envOfC qual (defScope st) s.heap.objs.size f cdv)) → sp vs H Q →
      ∃ t, PSs (cxOf CX0 P w K mg base N qual (defScope st) f cdv A outer s H E0) (defBody st) t ∧ t { nx := fun _ H' => Q .non H', rt := Q } (L2.start N vs) H) : FnG P w K mg base (k + 1) f fd ps sp := by
  obtain ⟨oc, od, kV, doc, pm, an, cdv, ct, osl, rfl, lk, hcd⟩ := F.ex
  refine ⟨len, fun A outer s H args us vs Q hg hr e0 hb r hsp => ?_⟩
  have KX : K.In s.heap := e0.mod.kin.keeps fun b o e => (e0.bs b o e).1
  have lim : s.heap.NoLimit := e0.mod.nolimit.keeps fun b o e => (e0.bs b o e).1
  have kinds : ∀ y ∈ ps.zip us, (defScope st).names.lookup y.1 = some .local ∨ ((defScope st).names.lookup y.1 = some .cell ∧ ((cellsFrom (s.heap.objs.size + 1) (defScope st).names []).lookup y.1).isSome = true) := by
    intro y hy
    cases S.par y.1 (List.of_mem_zip (a := y.1) (b := y.2) hy).1 with
    | inl q => exact .inl q
    | inr q => exact .inr ⟨q, PySem.W.cellsFrom_some _ _ _ (.inl q)⟩
  refine codeAny_call_function hr.depth (KX _ _ lk) rfl S.co S.gen rfl (PySem.W.codeRec_of KX hcd) (hb _ _ _ _ ?_)
  refine wpAny_newFunctionEnv_cells S.kind kinds fun env he s1 x => ?_
  subst he
  refine ⟨lim.keeps x.toInCall.keep, codeAny_func ?_⟩
  obtain ⟨t, ht, hq⟩ := hbody cdv A outer s H vs Q hg (hr.deeper _) hsp
  have I := inv_start (CX := CX0) (P := P) (w := w) (N := N) (qual := qual) (cd := cdv) (E := E0) S hr.hd e0 (len _ _ _ hsp) r x
  refine wpAny_mono (ht.run [] s1 (L2.start N vs) H _ I hq) (fun fl s' hs => ?_) fun e s' hs => hs
  cases fl with
  | ret u => obtain ⟨v, σ', H', J, rv, q⟩ := hs; exact ⟨v, H', J.os, J.bare, J.base, J.hok, rv, q⟩
  | next => obtain ⟨σ', H', J, q⟩ := hs; exact ⟨V.non, H', J.os, J.bare, J.base, J.hok, rfl, q⟩
  | brk => obtain ⟨_, _, _, q⟩ := hs; exact q.elim
  | cont => obtain ⟨_, _, _, q⟩ := hs; exact q.elim
end

/-! ## a def by its name -/
structure DefG (P : Program) (w : World) (K : PySem.W.Frag) (mg : Str → Option Value) (base : Heap) (k : Nat) (x : Str) (sp : SpG) : Prop where
  ex : ∃ f fd ps, FnG P w K mg base k f fd ps sp ∧ mg x = some (.ref f) ∧ PySem.W.keepIn K (.ref f) = true ∧ Binds K fd ps []
theorem DefG.mono {P : Program} {w : World} {K : PySem.W.Frag} {mg : Str → Option Value} {base : Heap} {j k : Nat} {x : Str} {sp : SpG} (D : DefG P w K mg base j x sp) (h : j ≤ k) : DefG P w K mg base k x sp :=
  let ⟨f, fd, ps, F, a, b, c⟩ := D.ex; ⟨⟨f, fd, ps, F.mono h, a, b, c⟩⟩
theorem DefG.imp {P : Program} {w : World} {K : PySem.W.Frag} {mg : Str → Option Value} {base : Heap} {k : Nat} {x : Str} {sp sp' : SpG} (D : DefG P w K mg base k x sp) (h : ∀ vs H Q, sp' vs H Q → sp vs H Q) : DefG P w K mg base k x sp' :=
  let ⟨f, fd, ps, F, a, b, c⟩ := D.ex; ⟨⟨f, fd, ps, F.imp h, a, b, c⟩⟩
def tCallG (sp : SpG) (t : TA) : TE := fun σ H Q => t σ H fun vs H1 => sp vs H1 Q
section
variable {X : Cx} {k : Nat} {x : Str} {sp : SpG} {p pos : Pos} {e : Expr} {es : List Expr} {t : TA}
/-- where calls go: room, no repr under way -/
structure Calm (X : Cx) (k : Nat) : Prop where
  room : Room k X.A
  gd : X.A.guards = some []
theorem Calm.mono {j k : Nat} (h : Calm X k) (l : j ≤ k) : Calm X j := ⟨h.room.mono l, h.gd⟩
theorem pe_callG (D : DefG X.prog X.w X.K X.mg X.base k x sp) (hr : Calm X k) (hg : Gl X x)
    (ha : PA X (e :: es) t) (hdb : (x == ("__debug__" : Str)) = false := by decide) (he : starEach (e :: es) X.env = (false, eval e X.env) :: starEach es X.env := by rfl) (hpl : (backTo pos (starEach es X.env)).any (·.1) = false := by rfl) :
    PE X (.Call (.Name x p) (e :: es) [] pos) (tCallG sp t) := by
  obtain ⟨f, fd, ps, F, hm, hk, hb⟩ := D.ex
  refine ⟨fun pins s σ H Q I h => ?_⟩
  refine wpAny_Call_Name_kw (ld_glob I hg hm ?_ hdb)
  refine PySem.W.callWith_K (h₀ := X.base) I.ok.mod.kin hk (thn (ha.run pos pins s σ H _ I h) fun us s1 ⟨vs, H1, I1, r, q⟩ => ⟨I1.kIn, ?_⟩) he hpl
  have hl : us.length = ps.length := by rw [← r.length]; exact F.len _ _ _ q
  have hbs := hb s1 us I1.kIn (by rw [List.append_nil]; exact hl)
  rw [List.append_nil] at hbs
  refine wpAny_call (codeAny_mono (F.run X.A X.stack s1 H1 ⟨us, []⟩ us vs Q hr.gd hr.room I1.env0 hbs r q) fun r s' hq => ?_)
  cases r with
  | error e => exact (hq : False).elim
  | ok fl =>
    cases fl with
    | ret u => exact I1.after hq
    | next => exact False.elim hq
    | brk => exact False.elim hq
    | cont => exact False.elim hq
end

/-! ## pure defs -/
def spP (K : PySem.W.Frag) (n : Nat) (g : List PyData → Option PyData) : SpG := fun vs H Q => vs.length = n ∧ ∃ F ds d, Same F H ∧ RpAll K F vs ds ∧ g ds = some d ∧ Out K F H d Q
theorem spP.mono {K : PySem.W.Frag} {n : Nat} {g g' : List PyData → Option PyData} (h : ∀ ds d, g' ds = some d → g ds = some d) : ∀ vs H Q, spP K n g' vs H Q → spP K n g vs H Q :=
  fun vs H Q ⟨l, F, ds, d, a, b, e, q⟩ => ⟨l, F, ds, d, a, b, h ds d e, q⟩
mutual
/-- no list, no dict within -/
def imm : PyData → Bool
  | .list _ => false
  | .dict _ => false
  | .tuple ds => imms ds
  | _ => true
def imms : List PyData → Bool
  | [] => true
  | d :: ds => imm d && imms ds
end
section
variable {K : PySem.W.Frag} {F F' : Hp}
mutual
theorem Rp.tups (h : ∀ a xs, F a = some (.tup xs) → F' a = some (.tup xs)) : ∀ {v : V} {d : PyData}, Rp K F v d → imm d = true → Rp K F' v d
  | _, _, .non, _ => .non
  | _, _, .bl b, _ => .bl b
  | _, _, .int i, _ => .int i
  | _, _, .str x, _ => .str x
  | _, _, .lst _ _, q => by unfold imm at q; cases q
  | _, _, .tup a r, q => .tup (h _ _ a) (RpAll.tups h r (by unfold imm at q; exact q))
  | _, _, .dK _ _, q => by unfold imm at q; cases q
  | _, _, .dT _ _, q => by unfold imm at q; cases q
theorem RpAll.tups (h : ∀ a xs, F a = some (.tup xs) → F' a = some (.tup xs)) : ∀ {v : List V} {d : List PyData}, RpAll K F v d → imms d = true → RpAll K F' v d
  | _, _, .nil, _ => .nil
  | _, _, .cons a b, q => by
    unfold imms at q
    rw [Bool.and_eq_true] at q
    exact .cons (Rp.tups h a q.1) (RpAll.tups h b q.2)
end
end
def dApI {S : Type} (g : List PyData → Option PyData) (r : DenA S) : Den S := fun e s => (r e s).bind fun (as, s1) => (g as).bind fun d => if imm d = true then some (d, s1) else none
theorem ShAll.rp {K : PySem.W.Frag} {F G : Hp} {vs : List V} {ds : List PyData} (h : ShAll K F G vs ds) (fg : Same F G) : RpAll K G vs ds := by
  induction vs generalizing ds with
  | nil => cases h; exact .nil
  | cons v vs ih => cases h with | cons a b => exact .cons (a.rp fg) (ih b)
section
variable {X : Cx} {c : Cfg} {k n : Nat} {x : Str} {g : List PyData → Option PyData} {p pos : Pos} {e : Expr} {es : List Expr} {fs : DenA c.I.S}
theorem pv_call (D : DefG X.prog X.w X.K X.mg X.base k x (spP X.K n g)) (hr : Calm X k) (hg : Gl X x) (ha : PAv X c (e :: es) fs) (hn : (e :: es).length = n := by rfl)
    (hlen : ∀ env st as st', fs env st = some (as, st') → as.length = n) (hdb : (x == ("__debug__" : Str)) = false := by decide) (he : starEach (e :: es) X.env = (false, eval e X.env) :: starEach es X.env := by rfl) (hpl : (backTo pos (starEach es X.env)).any (·.1) = false := by rfl) :
    PV X c (.Call (.Name x p) (e :: es) [] pos) (dApp g fs) := (pe_callG D hr hg ha hdb he hpl).imp fun σ H Q ⟨F0, G0, F, env, st, d, st', R, hf, q⟩ => by
  obtain ⟨as, h1, h2⟩ := app_inv hf
  refine ⟨F0, G0, F, env, st, as, st', R, h1, fun F1 H1 vs x1 ok1 r1 => ?_⟩
  have R1 := R.step x1 ok1
  exact ⟨by rw [r1.length]; exact hlen _ _ _ _ h1, F1, as, d, R1.fh, r1, h2, R1.out fun F2 H2 w x2 ok2 r => q F2 H2 w (x1.trans x2) ok2 r⟩
theorem alen_nil {S : Type} : ∀ (env : Env) (st : S) as st', dANil env st = some (as, st') → as.length = 0 := fun env st as st' h => by cases h; rfl
theorem alen_cons {S : Type} {m : Nat} {f : Den S} {fs : DenA S} (h : ∀ env st as st', fs env st = some (as, st') → as.length = m) : ∀ (env : Env) (st : S) as st', dACons f fs env st = some (as, st') → as.length = m + 1 := fun env st as st' q => by
  unfold dACons at q
  obtain ⟨⟨y, s1⟩, h1, q⟩ := Option.bind_eq_some_iff.mp q
  obtain ⟨⟨ys, s2⟩, h2, q⟩ := Option.bind_eq_some_iff.mp q
  cases q
  rw [List.length_cons, h _ _ _ _ h2]
/-- the arguments are only lent: what comes back holds no list -/
theorem pv_callB (D : DefG X.prog X.w X.K X.mg X.base k x (spP X.K n g)) (hr : Calm X k) (hg : Gl X x) (ha : PAp X c (e :: es) fs)
    (hlen : ∀ env st as st', fs env st = some (as, st') → as.length = n) (hdb : (x == ("__debug__" : Str)) = false := by decide) (he : starEach (e :: es) X.env = (false, eval e X.env) :: starEach es X.env := by rfl) (hpl : (backTo pos (starEach es X.env)).any (·.1) = false := by rfl) :
    PV X c (.Call (.Name x p) (e :: es) [] pos) (dApI g fs) := (pe_callG D hr hg ha hdb he hpl).imp fun σ H Q ⟨F0, G0, F, env, st, d, st', R, hf, q⟩ => by
  unfold dApI at hf
  obtain ⟨⟨as, s1⟩, h1, hf1⟩ := Option.bind_eq_some_iff.mp hf
  obtain ⟨d', h2, him, e⟩ := bind_if (p := fun d => imm d = true) hf1
  cases e
  refine ⟨F0, G0, F, env, st, as, _, R, h1, fun F1 H1 vs x1 ok1 r1 => ?_⟩
  have R1 := R.step x1 ok1
  have GH : Same (c.mask H1) H1 := mask_le _ _
  refine ⟨?_, c.mask H1, as, d, GH, r1.rp R1.fg, h2, fun F' H' v x r => ?_⟩
  · have := (r1.rp R1.fg).length
    rw [this]; exact hlen _ _ _ _ h1
  · -- the tuples of F' beside F1
    let F2 : Hp := fun a => match F1 a with
      | some o => some o
      | none => match F' a with
        | some (.tup xs) => some (.tup xs)
        | _ => none
    have s12 : Same F1 F2 := fun a o h => by show (match F1 a with | some o => some o | none => _) = _; rw [h]
    have tup : ∀ a xs, F' a = some (.tup xs) → F2 a = some (.tup xs) := fun a xs h => by
      show (match F1 a with | some o => some o | none => _) = _
      cases z : F1 a with
      | none => dsimp only; rw [h]
      | some o =>
        have z1 := x.f a o (R1.fg a o z)
        rw [h] at z1
        exact z1.symm
    have of2 : ∀ a o, F2 a = some o → F1 a = some o ∨ (F1 a = none ∧ ∃ xs, o = .tup xs ∧ F' a = some (.tup xs)) := fun a o h => by
      have h' : (match F1 a with | some o => some o | none => (match F' a with | some (.tup xs) => some (.tup xs) | _ => none)) = some o := h
      cases z : F1 a with
      | some u => rw [z] at h'; exact .inl h'
      | none =>
        rw [z] at h'
        dsimp only at h'
        split at h'
        · rename_i xs hxs
          cases h'
          exact .inr ⟨rfl, xs, rfl, hxs⟩
        · cases h'
    have xm : Ext F1 (c.mask H1) F2 (c.mask H') := by
      refine ⟨s12, mask_mono _ x.g, fun a o h => ?_, fun a o h nt => ?_⟩
      · rcases of2 a o h with h | ⟨_, xs, rfl, h2⟩
        · exact mask_mono _ x.g _ _ (R1.fg _ _ h)
        · cases hh : c.I.hid a with
          | false => show c.I.mask _ a = _; rw [mask_of _ hh]; exact x.fg _ _ h2
          | true =>
            obtain ⟨u, hu, nt⟩ := c.I.trk R1.src hh
            have z := x.fg _ _ h2
            rw [x.g _ _ hu] at z
            cases z
            exact absurd rfl (nt xs)
      · cases z : F2 a with
        | none =>
          cases z1 : F1 a with
          | none => rfl
          | some u => rw [s12 _ _ z1] at z; cases z
        | some u =>
          rcases of2 a u z with z1 | ⟨_, xs, rfl, z1⟩
          · exact z1.symm
          · have z2 := x.fg _ _ z1
            rw [x.g _ _ (mask_le _ _ _ _ h)] at z2
            cases z2
            exact absurd rfl (nt xs)
    exact q F2 H' v (x1.trans xm) (c.I.mono x.g R1.src) (Rp.tups tup r him)
end

/-! ## a pure def's body -/
def pcfg (mu : Nat → Bool) : Cfg := ⟨unitI, mu, []⟩
/-- what a body hands back -/
def runP (N : Nat) (g : DenS Unit) (ds : List PyData) : Option PyData := match g (ds.map some ++ List.replicate (N - ds.length) none) () with
  | some ((.ret d, _), _) => some d
  | some ((.nx, _), _) => some .none
  | _ => none
theorem rel_start {K : PySem.W.Frag} {mu : Nat → Bool} {F H : Hp} {vs : List V} {ds : List PyData} {N : List Str} (fh : Same F H) (r : RpAll K F vs ds) (hm : ∀ i, i < ds.length → mu i = false) :
    Rel (pcfg mu) K F H F (L2.start N vs) H (ds.map some ++ List.replicate (N.length - ds.length) none) () := by
  have hl := r.length
  refine ⟨?_, trivial, fun i v h => (by cases h), ?_, fun i d h => ?_, fun i j p d e hi hj h1 _ _ _ => ?_⟩
  · show Ext F H F (unitI.mask H)
    rw [mask_unit]
    exact Ext.refl fh
  · unfold L2.start; simp [hl]
  · have hi : i < ds.length := by
      by_cases hi : i < ds.length
      · exact hi
      · rw [List.getElem?_append_right (by simpa using hi), List.getElem?_replicate] at h
        split at h <;> cases h
    rw [List.getElem?_append_left (by simpa using hi), List.getElem?_map] at h
    obtain ⟨d', h1, h2⟩ := Option.map_eq_some_iff.mp h
    cases h2
    obtain ⟨v, hv, rv⟩ := r.get h1
    refine ⟨v, ?_, by rw [if_neg (by show ¬ mu i = true; rw [hm i hi]; decide)]; exact rv⟩
    unfold L2.start
    rw [List.getElem?_append_left (by rw [List.length_map, hl]; exact hi), List.getElem?_map, hv]; rfl
  · have hi' : i < ds.length := by
      by_cases hi : i < ds.length
      · exact hi
      · rw [List.getElem?_append_right (by simpa using hi), List.getElem?_replicate] at h1
        split at h1 <;> cases h1
    have : mu i = true := hi
    rw [hm i hi'] at this
    cases this
theorem fnG_pure {P : Program} {w : World} {K : PySem.W.Frag} {mg : Str → Option Value} {base : Heap} {k : Nat} {f : Addr} {fd : FuncData} {ps N : List Str} {x qual : Str} {st : Stmt} {g : DenS Unit} (mu : Nat → Bool)
    (F : Fun K x qual st f fd) (S : FnScope N ps (defScope st)) (hm : ∀ i, i < ps.length → mu i = false)
    (hbody : ∀ (cdv : Value) (A : Around) (outer : List PySem.Env) (s : Shared) (H : Hp), Calm (cxOf CX0 P w K mg base N qual (defScope st) f cdv A outer s H E0).nox k → PDs (cxOf CX0 P w K mg base N qual (defScope st) f cdv A outer s H E0).nox (pcfg mu) (defBody st) g) :
    FnG P w K mg base (k + 1) f fd ps (spP K ps.length (runP N.length g)) := by
  refine FnG.of F S (fun vs H Q h => h.1) fun cdv A outer s H vs Q hgd hr ⟨hl, F', ds, d, fh, r, hg, q⟩ => ?_
  refine ⟨_, (hbody cdv A outer s H ⟨hr, hgd⟩).nox, ?_⟩
  have hld : ds.length = ps.length := by rw [← r.length]; exact hl
  unfold runP at hg
  have out : ∀ {F1 H1 : Hp} {v : V} {d' : PyData}, Ext F' H F1 ((pcfg mu).mask H1) → Rp K F1 v d' → d' = d → Q v H1 := fun {F1 H1 v d'} x r e => by
    subst e
    have x' : Ext F' H F1 (unitI.mask H1) := x
    rw [mask_unit] at x'
    exact q _ _ _ x' r
  split at hg
  · rename_i d' e1 u1 h
    cases hg
    exact ⟨F', H, F', _, (), _, e1, u1, rel_start fh r (fun i hi => hm i (by rw [← hld]; exact hi)), h, fun F1 H1 v x _ rv => out x rv rfl⟩
  · rename_i e1 u1 h
    cases hg
    exact ⟨F', H, F', _, (), _, e1, u1, rel_start fh r (fun i hi => hm i (by rw [← hld]; exact hi)), h, fun F1 σ1 H1 _ R1 => out R1.ext Rp.non rfl⟩
  · cases hg
end DL

set_option Elab.async false
set_option linter.all false
set_option maxRecDepth 100000
namespace DL
open PySem PySem.Spec PyProof.Rows L2

/-! ## + - * // % and the like -/
section
variable {X : Cx} {K : PySem.W.Frag}
def dAdd : PyData → PyData → Option PyData
  | .int i, .int j => some (.int (i + j))
  | .tuple xs, .tuple ys => if xs.length + ys.length ≤ sizeLine then some (.tuple (xs ++ ys)) else none
  | .list xs, .list ys => if xs.length + ys.length ≤ sizeLine then some (.list (xs ++ ys)) else none
  | _, _ => none
abbrev rAddD (K : PySem.W.Frag) : R2 := fun x y H Q => (fun x y H Q => rI0 (fun i j => .int (i + j)) x y H Q ∨ rCatA K x y H Q) x y H Q ∨ rCat x y H Q
theorem op_addD : OpR X (binaryOp .Add) (rAddD X.K) := (op_add.or op_catA).or op_cat
theorem sem_add : Sem2 K (rAddD K) dAdd := fun F H x y a b d Q fg sa sb e q => by
  unfold dAdd at e
  split at e
  · cases e; exact .inl (.inl ⟨_, _, sa.int, sb.int, q.here fg (.int _)⟩)
  · split at e
    · rename_i xs ys hl
      cases e
      obtain ⟨p, vs, rfl, hp, r⟩ := sa.tuple
      obtain ⟨p2, ws, rfl, hp2, r2⟩ := sb.tuple
      refine .inl (.inr ⟨p, p2, vs, ws, rfl, rfl, seqT_inj (fg _ _ hp), seqT_inj (fg _ _ hp2), by rw [r.length, r2.length]; exact hl, fun z => ?_, fun _ z => ?_, fun _ _ => Out.tup q fg (r.append r2)⟩)
      · subst z; cases r; exact q.here fg (.tup hp2 r2)
      · subst z; cases r2; rw [List.append_nil] at q; exact q.here fg (.tup hp r)
    · cases e
  · split at e
    · rename_i xs ys hl
      cases e
      obtain ⟨p, vs, rfl, hp, r⟩ := sa.list fg
      obtain ⟨p2, ws, rfl, hp2, r2⟩ := sb.list fg
      exact .inr ⟨p, p2, vs, ws, rfl, rfl, hp, hp2, by rw [r.length, r2.length]; exact hl, OutN.lst (q.n fg) (r.append r2)⟩
    · cases e
  · cases e
def dAddL : PyData → PyData → Option PyData
  | .list xs, .list ys => if xs.length + ys.length ≤ sizeLine then some (.list (xs ++ ys)) else none
  | _, _ => none
theorem sem_addL : Sem2N K rCat dAddL := fun F H x y a b d Q fg sa sb e q => by
  unfold dAddL at e
  split at e
  · split at e
    · rename_i xs ys hl
      cases e
      obtain ⟨p, vs, rfl, hp, r⟩ := sa.list fg
      obtain ⟨p2, ws, rfl, hp2, r2⟩ := sb.list fg
      exact ⟨p, p2, vs, ws, rfl, rfl, hp, hp2, by rw [r.length, r2.length]; exact hl, OutN.lst q (r.append r2)⟩
    · cases e
  · cases e
def dSub : PyData → PyData → Option PyData
  | .int i, .int j => some (.int (i - j))
  | _, _ => none
theorem sem_sub : Sem2 K (rI0 fun i j => .int (i - j)) dSub := fun F H x y a b d Q fg sa sb e q => by
  unfold dSub at e
  split at e
  · cases e; exact ⟨_, _, sa.int, sb.int, q.here fg (.int _)⟩
  · cases e
def small64 (i : Int) : Bool := decide (-(2 ^ 64) < i) && decide (i < 2 ^ 64)
theorem small64_iff {i : Int} : small64 i = true ↔ (-(2 ^ 64) < i ∧ i < 2 ^ 64) := by unfold small64; simp
/-- t * k of a tuple, all cases -/
theorem tuple_mul1 (l : Addr) (items : Array Value) (n : Nat) (dd : Option Addr) (sl : Array (Option Value)) (x : Int) (u : Tok) (c0 : (decide (x < -(2 ^ 63)) || decide (x ≥ 2 ^ 63)) = false) (c1 : (items.isEmpty || x == 1) = true) :
    Meets (Builtin.«tuple.__mul__» ⟨[.ref l, .int x u], []⟩) (fun _ R s => s.heap.get? l = some { cls := .type "tuple", dict := dd, data := .seq items n, slots := sl } ∧ R (.ok (.ret (Value.ref l))) s) :=
  .of_wp fun prog w A R s h => by
    obtain ⟨hp, g, d, tk, os⟩ := s
    obtain ⟨hl, h⟩ := h
    have f1 := AutoSeq1.idx_int
    wp_walk using wpAny_loadPart' hl
    repeat (first
      | (refine wpAny_ite_false (decide_eq_false (by rw [c0]; exact Bool.false_ne_true)) ?_; wp_walk using wpAny_loadPart' hl)
      | (refine wpAny_ite_true (decide_eq_true c1) ?_; wp_walk using wpAny_loadPart' hl))
    exact ⟨_, rfl, h⟩
theorem tuple_mul0 (l : Addr) (items : Array Value) (n : Nat) (dd : Option Addr) (sl : Array (Option Value)) (x : Int) (u : Tok) (c0 : (decide (x < -(2 ^ 63)) || decide (x ≥ 2 ^ 63)) = false) (c1 : (items.isEmpty || x == 1) = false) (c2 : (decide (x ≤ 0) || items.isEmpty) = true) :
    Meets (Builtin.«tuple.__mul__» ⟨[.ref l, .int x u], []⟩) (fun _ R s => s.heap.get? l = some { cls := .type "tuple", dict := dd, data := .seq items n, slots := sl } ∧
      R (.ok (.ret (Value.ref s.heap.objs.size))) { s with heap := s.heap.push { cls := Value.type "tuple", data := Data.seq #[] }, toks := s.toks }) :=
  .of_wp fun prog w A R s h => by
    obtain ⟨hp, g, d, tk, os⟩ := s
    obtain ⟨hl, h⟩ := h
    have f1 := AutoSeq1.idx_int
    wp_walk using wpAny_loadPart' hl
    repeat (first
      | (refine wpAny_ite_false (decide_eq_false (by rw [c0]; exact Bool.false_ne_true)) ?_; wp_walk using wpAny_loadPart' hl)
      | (refine wpAny_ite_false (decide_eq_false (by rw [c1]; exact Bool.false_ne_true)) ?_; wp_walk using wpAny_loadPart' hl)
      | (refine wpAny_ite_true (decide_eq_true c2) ?_; wp_walk using wpAny_loadPart' hl))
    exact ⟨_, rfl, h⟩
def rRepA (K : PySem.W.Frag) : R2 := fun x y H Q => ∃ l k xs, x = .ref l ∧ y = .int k ∧ SqT K H l xs ∧ k ≤ 1000 ∧ -1000 ≤ k ∧ xs.length ≤ 1000 ∧ (xs = [] ∨ k = 1 → Q (.ref l) H) ∧
  (xs ≠ [] → k ≠ 1 → ∀ p, H p = none → Q (.ref p) (upd H p (.tup (List.replicate k.toNat xs).flatten)))
theorem op_repA : OpR X (binaryOp .Mult) (rRepA X.K) := by
  intro pins s σ H x y v u Q I rx ry h
  obtain ⟨l, k, xs, rfl, rfl, hT, hk1, hk2, hz, q1, q2⟩ := h
  by_cases big : xs ≠ [] ∧ 2 ≤ k
  · exact op_repT pins s σ H _ _ v u Q I rx ry ⟨l, k, xs, rfl, rfl, hT, big.1, big.2, hk1, hz, q2 big.1 (by omega)⟩
  · cases rx
    obtain ⟨t, rfl⟩ := ry
    obtain ⟨its, r, ⟨⟨cls, dd, data, sl⟩, ho, hc, n, hd⟩, hs⟩ := I.tuple hT
    simp only at hc hd
    subst hc hd
    have hle : its.length = xs.length := r.length.symm
    have c0 : (decide (k < -(2 ^ 63)) || decide (k ≥ 2 ^ 63)) = false := by
      rw [decide_eq_false (by omega), decide_eq_false (by omega)] <;> rfl
    by_cases one : xs = [] ∨ k = 1
    · have c1 : (its.toArray.isEmpty || k == 1) = true := by
        rcases one with e | e
        · subst e
          cases its with
          | nil => rfl
          | cons a b => simp at hle
        · subst e; simp
      refine wpAny_binaryOp_repeat_ref (T := "tuple") (U := "int") (by decide) ⟨_, ho, rfl⟩ (fun s' => typeIs_int s' k t) noFill_tuple_mul F.fills_int_mul F.slot_int_rmul repeat_tuple F.slot_int_index.lookup
        (call_meets F.slot_int_rmul (typeIs_int s k t) F.entry_int_rmul (F.args_int_rmul_2 _ _) (int_rmul_tuple k t l its.toArray n dd sl)
          ⟨ho, rfl, ⟨_, ho, rfl⟩, call_meets F.slot_tuple_mul ⟨_, ho, rfl⟩ F.entry_tuple_mul (F.args_tuple_mul_2 _ _) (tuple_mul1 l its.toArray n dd sl k t c0 c1) ⟨ho, ?_⟩⟩)
      exact ⟨.ref l, H, I, rfl, q1 one⟩
    · have hne : xs ≠ [] := fun e => one (.inl e)
      have n1 : k ≠ 1 := fun e => one (.inr e)
      have k0 : k ≤ 0 := by
        have : ¬ 2 ≤ k := fun e => big ⟨hne, e⟩
        omega
      have hn : its ≠ [] := fun e => hne (by
        rw [e] at hle
        exact List.eq_nil_of_length_eq_zero hle.symm)
      have hi : its.toArray.isEmpty = false := by
        cases its with
        | nil => exact absurd rfl hn
        | cons a b => rfl
      have c1 : (its.toArray.isEmpty || k == 1) = false := by
        rw [hi, Bool.false_or]
        exact beq_eq_false_iff_ne.mpr n1
      have c2 : (decide (k ≤ 0) || its.toArray.isEmpty) = true := by rw [decide_eq_true k0]; rfl
      refine wpAny_binaryOp_repeat_ref (T := "tuple") (U := "int") (by decide) ⟨_, ho, rfl⟩ (fun s' => typeIs_int s' k t) noFill_tuple_mul F.fills_int_mul F.slot_int_rmul repeat_tuple F.slot_int_index.lookup
        (call_meets F.slot_int_rmul (typeIs_int s k t) F.entry_int_rmul (F.args_int_rmul_2 _ _) (int_rmul_tuple k t l its.toArray n dd sl)
          ⟨ho, rfl, ⟨_, ho, rfl⟩, call_meets F.slot_tuple_mul ⟨_, ho, rfl⟩ F.entry_tuple_mul (F.args_tuple_mul_2 _ _) (tuple_mul0 l its.toArray n dd sl k t c0 c1 c2) ⟨ho, ?_⟩⟩)
      have e0 : (List.replicate k.toNat xs).flatten = [] := by
        have : k.toNat = 0 := by omega
        rw [this]; rfl
      have q3 := q2 hne n1 s.heap.objs.size (I.hok.fresh (Nat.le_refl _))
      rw [e0] at q3
      refine ⟨.ref s.heap.objs.size, _, I.laid (t' := s.toks) (o := .tup []) (fun b ob q => Heap.get?_push_of_some _ q) (Nat.le_refl _) ?_, rfl, q3⟩
      exact ⟨Nat.zero_le _, [], .nil, IsTup.new _ _⟩
def repL (k : Int) (xs : List PyData) : List PyData := (List.replicate k.toNat xs).flatten
def dMul : PyData → PyData → Option PyData
  | .int i, .int j => if small64 i || small64 j then some (.int (i * j)) else none
  | .tuple xs, .int k => if k ≤ 1000 ∧ -1000 ≤ k ∧ xs.length ≤ 1000 then some (.tuple (repL k xs)) else none
  | .list xs, .int k => if -(2 ^ 63) ≤ k ∧ k < 2 ^ 63 ∧ xs.length * k.toNat ≤ sizeLine then some (.list (repL k xs)) else none
  | _, _ => none
abbrev rMulD (K : PySem.W.Frag) : R2 := fun x y H Q => (fun x y H Q => rI CMul (fun i j => .int (i * j)) x y H Q ∨ rRepA K x y H Q) x y H Q ∨ rRep x y H Q
theorem op_mulD : OpR X (binaryOp .Mult) (rMulD X.K) := (op_mul.or op_repA).or op_rep
theorem sem_mul : Sem2 K (rMulD K) dMul := fun F H x y a b d Q fg sa sb e q => by
  unfold dMul at e
  split at e
  · split at e
    · rename_i i j h
      cases e
      rw [Bool.or_eq_true, small64_iff, small64_iff] at h
      exact .inl (.inl ⟨_, _, sa.int, sb.int, h, q.here fg (.int _)⟩)
    · cases e
  · split at e
    · rename_i xs k h
      cases e
      obtain ⟨p, vs, rfl, hp, r⟩ := sa.tuple
      refine .inl (.inr ⟨p, k, vs, rfl, sb.int, seqT_inj (fg _ _ hp), h.1, h.2.1, by rw [r.length]; exact h.2.2, fun z => ?_, fun _ _ => Out.tup q fg (r.flat _)⟩)
      have ex : repL k xs = xs := by
        unfold repL
        rcases z with z | z
        · subst z; cases r
          induction k.toNat with
          | zero => rfl
          | succ n ih => rw [List.replicate_succ, List.flatten_cons, ih]; rfl
        · subst z
          show (List.replicate 1 xs).flatten = xs
          simp
      rw [ex] at q
      exact q.here fg (.tup hp r)
    · cases e
  · split at e
    · rename_i xs k h
      cases e
      obtain ⟨p, vs, rfl, hp, r⟩ := sa.list fg
      exact .inr ⟨p, k, vs, rfl, sb.int, hp, h.1, h.2.1, by rw [r.length]; exact h.2.2, OutN.lst (q.n fg) (r.flat _)⟩
    · cases e
  · cases e
def dMulL : PyData → PyData → Option PyData
  | .list xs, .int k => if -(2 ^ 63) ≤ k ∧ k < 2 ^ 63 ∧ xs.length * k.toNat ≤ sizeLine then some (.list (repL k xs)) else none
  | _, _ => none
theorem sem_mulL : Sem2N K rRep dMulL := fun F H x y a b d Q fg sa sb e q => by
  unfold dMulL at e
  split at e
  · split at e
    · rename_i xs k h
      cases e
      obtain ⟨p, vs, rfl, hp, r⟩ := sa.list fg
      exact ⟨p, k, vs, rfl, sb.int, hp, h.1, h.2.1, by rw [r.length]; exact h.2.2, OutN.lst q (r.flat _)⟩
    · cases e
  · cases e
def dDiv : PyData → PyData → Option PyData
  | .int i, .int j => if j ≠ 0 ∧ j.natAbs < 1073741824 then some (.int (i.fdiv j)) else none
  | _, _ => none
theorem sem_div : Sem2 K (rI CDivN fun i j => .int (i.fdiv j)) dDiv := fun F H x y a b d Q fg sa sb e q => by
  unfold dDiv at e
  split at e
  · split at e
    · rename_i h; cases e; exact ⟨_, _, sa.int, sb.int, h, q.here fg (.int _)⟩
    · cases e
  · cases e
def dMod : PyData → PyData → Option PyData
  | .int i, .int j => if j ≠ 0 then some (.int (i.fmod j)) else none
  | _, _ => none
theorem sem_mod : Sem2 K (rI (fun _ j => j ≠ 0) fun i j => .int (i.fmod j)) dMod := fun F H x y a b d Q fg sa sb e q => by
  unfold dMod at e
  split at e
  · split at e
    · rename_i h; cases e; exact ⟨_, _, sa.int, sb.int, h, q.here fg (.int _)⟩
    · cases e
  · cases e
def dPow : PyData → PyData → Option PyData
  | .int i, .int j => if 0 ≤ j ∧ j ≤ 1000000 ∧ i.natAbs < 2 ^ 64 then some (.int (i ^ j.toNat)) else none
  | _, _ => none
theorem sem_pow : Sem2 K (rI CPow fun i j => .int (i ^ j.toNat)) dPow := fun F H x y a b d Q fg sa sb e q => by
  unfold dPow at e
  split at e
  · split at e
    · rename_i h; cases e; exact ⟨_, _, sa.int, sb.int, h, q.here fg (.int _)⟩
    · cases e
  · cases e
def dShl : PyData → PyData → Option PyData
  | .int i, .int j => if 0 ≤ j ∧ j ≤ 1000000 ∧ i.natAbs < 2 ^ 64 then some (.int (i * 2 ^ j.toNat)) else none
  | _, _ => none
theorem sem_shl : Sem2 K (rI CPow fun i j => .int (i * 2 ^ j.toNat)) dShl := fun F H x y a b d Q fg sa sb e q => by
  unfold dShl at e
  split at e
  · split at e
    · rename_i h; cases e; exact ⟨_, _, sa.int, sb.int, h, q.here fg (.int _)⟩
    · cases e
  · cases e
def dNeg : PyData → Option PyData
  | .int i => some (.int (-i))
  | _ => none
theorem sem_neg : Sem1 K (rU fun i => .int (-i)) dNeg := fun F H x a d Q fg sa e q => by
  unfold dNeg at e
  split at e
  · cases e; exact ⟨_, sa.int, q.here fg (.int _)⟩
  · cases e
theorem pv_un {c : Cfg} {op : UnaryOp} {r : V → Hp → VK → Prop} {g : PyData → Option PyData} {a : Expr} {fa : Den c.I.S} {pos : Pos} (ho : UnR X (unaryOp op) r) (sem : Sem1 X.K r g) (ha : PP X c a fa) : PV X c (.UnaryOp op a pos) (dUn g fa) := (pe_un ho ha).imp (un_of sem)

/-! ## comparisons -/
def dEq : PyData → PyData → Option PyData
  | .str x, .str y => some (.bool (decide (x = y)))
  | a, b => if SeqAt.shaped a = true ∧ SeqAt.shaped b = true then some (.bool (PyData.eqv a b)) else none
def dNe : PyData → PyData → Option PyData
  | .str x, .str y => some (.bool (!decide (x = y)))
  | a, b => if SeqAt.shaped a = true ∧ SeqAt.shaped b = true then some (.bool (!PyData.eqv a b)) else none
mutual
theorem noD_lay : ∀ d : PyData, d.canLay0 = true → noD d = true
  | .none, _ => rfl
  | .bool _, _ => rfl
  | .int _, _ => rfl
  | .str _, _ => rfl
  | .list xs, h => by unfold noD; exact noDs_lay xs (by unfold PyData.canLay0 at h; exact h)
  | .tuple xs, h => by unfold noD; exact noDs_lay xs (by unfold PyData.canLay0 at h; exact h)
  | .dict _, h => by unfold PyData.canLay0 at h; cases h
theorem noDs_lay : ∀ ds : List PyData, PyData.canLayAll0 ds = true → noDs ds = true
  | [], _ => rfl
  | d :: ds, h => by
    unfold PyData.canLayAll0 at h
    rw [Bool.and_eq_true] at h
    unfold noDs
    rw [noD_lay d h.1, noDs_lay ds h.2]; rfl
end
theorem Sh.dp {F H : Hp} {v : V} {d : PyData} (h : Sh K F H v d) (fg : Same F H) (s : SeqAt.shaped d = true) : Dp K H v d := (h.rp fg).dp (noD_lay _ (SeqAt.canLay_of_shaped s))
theorem sem_eq : Sem2 K (fun x y H Q => rEq x y H Q ∨ rEqD K x y H Q) dEq := fun F H x y a b d Q fg sa sb e q => by
  unfold dEq at e
  split at e
  · rename_i i j
    cases e
    rw [sa.str, sb.str]
    refine .inl ⟨rfl, ?_⟩
    rw [dec_str]
    have := q.here fg (.bl (decide (i = j)))
    rwa [show decide (i = j) = (i == j) from by rw [Bool.eq_iff_iff]; simp] at this
  · split at e
    · rename_i h; cases e; exact .inr ⟨_, _, sa.dp fg h.1, sb.dp fg h.2, h.1, h.2, q.here fg (.bl _)⟩
    · cases e
theorem sem_ne : Sem2 K (fun x y H Q => rNe x y H Q ∨ rNeD K x y H Q) dNe := fun F H x y a b d Q fg sa sb e q => by
  unfold dNe at e
  split at e
  · rename_i i j
    cases e
    rw [sa.str, sb.str]
    refine .inl ⟨rfl, ?_⟩
    rw [dec_str]
    have := q.here fg (.bl (!decide (i = j)))
    rwa [show decide (i = j) = (i == j) from by rw [Bool.eq_iff_iff]; simp] at this
  · split at e
    · rename_i h; cases e; exact .inr ⟨_, _, sa.dp fg h.1, sb.dp fg h.2, h.1, h.2, q.here fg (.bl _)⟩
    · cases e
/-- order, by the library's own order of data -/
def rOrd (K : PySem.W.Frag) (g : PyData → PyData → Bool) : R2 := fun x y H Q => ∃ d e, Dp K H x d ∧ Dp K H y e ∧ PySem.W.alike d e = true ∧ d ≠ .none ∧ SeqAt.shaped d = true ∧ Q (.bl (g d e)) H
theorem ord_room {A : Around} {d e : PyData} (hd : SeqAt.shaped d = true) (hu : A.units + 64 < cLine) : A.units + min d.depth e.depth < cLine := SeqAt.room_of_shaped hd hu
theorem op_ltD (hu : X.A.units + 64 < cLine) : OpR X (compareOp .Lt) (rOrd X.K PySem.W.dataLt) := by
  intro pins s σ H x y v u Q I rx ry ⟨d, e, hd, he, al, hn, sd, q⟩
  obtain ⟨as, r1⟩ := Dp.reads I d x v hd rx
  obtain ⟨bs, r2⟩ := Dp.reads I e y u he ry
  exact PySem.W.lt_data r1 r2 al hn (ord_room sd hu) ⟨.bl _, H, I, rfl, q⟩
theorem op_gtD (hu : X.A.units + 64 < cLine) : OpR X (compareOp .Gt) (rOrd X.K fun d e => PySem.W.dataLt e d) := by
  intro pins s σ H x y v u Q I rx ry ⟨d, e, hd, he, al, hn, sd, q⟩
  obtain ⟨as, r1⟩ := Dp.reads I d x v hd rx
  obtain ⟨bs, r2⟩ := Dp.reads I e y u he ry
  exact PySem.W.gt_data r1 r2 al hn (ord_room sd hu) ⟨.bl _, H, I, rfl, q⟩
theorem op_leD (hu : X.A.units + 64 < cLine) : OpR X (compareOp .LtE) (rOrd X.K fun d e => !PySem.W.dataLt e d) := by
  intro pins s σ H x y v u Q I rx ry ⟨d, e, hd, he, al, hn, sd, q⟩
  obtain ⟨as, r1⟩ := Dp.reads I d x v hd rx
  obtain ⟨bs, r2⟩ := Dp.reads I e y u he ry
  exact PySem.W.le_data r1 r2 al hn (ord_room sd hu) ⟨.bl _, H, I, rfl, q⟩
theorem op_geD (hu : X.A.units + 64 < cLine) : OpR X (compareOp .GtE) (rOrd X.K fun d e => !PySem.W.dataLt d e) := by
  intro pins s σ H x y v u Q I rx ry ⟨d, e, hd, he, al, hn, sd, q⟩
  obtain ⟨as, r1⟩ := Dp.reads I d x v hd rx
  obtain ⟨bs, r2⟩ := Dp.reads I e y u he ry
  exact PySem.W.ge_data r1 r2 al hn (ord_room sd hu) ⟨.bl _, H, I, rfl, q⟩
def isSeq : PyData → Bool
  | .tuple _ => true
  | .list _ => true
  | .str _ => true
  | _ => false
/-- ints by themselves, other data by the library's order -/
def ordD (gi : Int → Int → Bool) (g : PyData → PyData → Bool) : PyData → PyData → Option PyData
  | .int i, .int j => some (.bool (gi i j))
  | a, b => if PySem.W.alike a b = true ∧ SeqAt.shaped a = true ∧ SeqAt.shaped b = true ∧ isSeq a = true then some (.bool (g a b)) else none
theorem sem_ord (gi : Int → Int → Bool) (g : PyData → PyData → Bool) : Sem2 K (fun x y H Q => rI0 (fun i j => .bl (gi i j)) x y H Q ∨ rOrd K g x y H Q) (ordD gi g) := fun F H x y a b d Q fg sa sb e q => by
  unfold ordD at e
  split at e
  · cases e; exact .inl ⟨_, _, sa.int, sb.int, q.here fg (.bl _)⟩
  · split at e
    · rename_i h
      cases e
      refine .inr ⟨a, b, sa.dp fg h.2.1, sb.dp fg h.2.2.1, h.1, fun z => ?_, h.2.1, q.here fg (.bl _)⟩
      subst z
      have := h.2.2.2
      cases this
    · cases e
abbrev dLt := ordD (fun i j => decide (i < j)) PySem.W.dataLt
abbrev dGt := ordD (fun i j => decide (j < i)) (fun d e => PySem.W.dataLt e d)
abbrev dLe := ordD (fun i j => decide (i ≤ j)) (fun d e => !PySem.W.dataLt e d)
abbrev dGe := ordD (fun i j => decide (j ≤ i)) (fun d e => !PySem.W.dataLt d e)

/-! ## in -/
def rInS (K : PySem.W.Frag) (neg : Bool) : R2 := fun x y H Q => ∃ d ds, Dp K H x d ∧ (Dp K H y (.list ds) ∨ Dp K H y (.tuple ds)) ∧ SeqAt.shaped d = true ∧ PyData.canLayAll0 ds = true ∧ Q (.bl (if neg then !ds.any (fun z => PyData.eqv z d) else ds.any fun z => PyData.eqv z d)) H
theorem op_inS (hu : X.A.units + 65 < cLine) : OpR X (compareOp .In) (rInS X.K false) := by
  intro pins s σ H x y v u Q I rx ry ⟨d, ds, hd, he, sd, sds, q⟩
  obtain ⟨as, r1⟩ := Dp.reads I d x v hd rx
  rcases he with he | he
  · obtain ⟨bs, r2⟩ := Dp.reads I _ y u he ry
    exact SeqAt.in_list_reads r2 r1 sds (SeqAt.canLay_of_shaped sd) (PyProof.Rows.room_in_shaped sd hu) ⟨.bl _, H, I, rfl, q⟩
  · obtain ⟨bs, r2⟩ := Dp.reads I _ y u he ry
    exact SeqAt.in_tuple_reads r2 r1 sds (SeqAt.canLay_of_shaped sd) (PyProof.Rows.room_in_shaped sd hu) ⟨.bl _, H, I, rfl, q⟩
theorem op_notInS (hu : X.A.units + 65 < cLine) : OpR X (compareOp .NotIn) (rInS X.K true) := by
  intro pins s σ H x y v u Q I rx ry ⟨d, ds, hd, he, sd, sds, q⟩
  obtain ⟨as, r1⟩ := Dp.reads I d x v hd rx
  rcases he with he | he
  · obtain ⟨bs, r2⟩ := Dp.reads I _ y u he ry
    exact SeqAt.notIn_list_reads r2 r1 sds (SeqAt.canLay_of_shaped sd) (PyProof.Rows.room_in_shaped sd hu) ⟨.bl _, H, I, rfl, q⟩
  · obtain ⟨bs, r2⟩ := Dp.reads I _ y u he ry
    exact SeqAt.notIn_tuple_reads r2 r1 sds (SeqAt.canLay_of_shaped sd) (PyProof.Rows.room_in_shaped sd hu) ⟨.bl _, H, I, rfl, q⟩
def memD (d : PyData) (ds : List PyData) : Bool := ds.any fun z => PyData.eqv z d
def seqInD (neg : Bool) (a b : PyData) : Option PyData := match itemsD b with
  | some ds => if SeqAt.shaped a = true ∧ PyData.canLayAll0 ds = true then some (.bool (if neg then !memD a ds else memD a ds)) else none
  | none => none
theorem items_of {F H : Hp} {v : V} {b : PyData} {ds : List PyData} (h : itemsD b = some ds) : b = .list ds ∨ b = .tuple ds := by
  unfold itemsD at h
  split at h
  · cases h; exact .inl rfl
  · cases h; exact .inr rfl
  · cases h
theorem sem_inS (neg : Bool) : Sem2 K (rInS K neg) (seqInD neg) := fun F H x y a b d Q fg sa sb e q => by
  unfold seqInD at e
  split at e
  · rename_i ds hb
    split at e
    · rename_i h
      cases e
      have hb' := items_of (F := F) (H := H) (v := y) hb
      have dy := sb.rp fg
      refine ⟨a, ds, sa.dp fg h.1, ?_, h.1, h.2, q.here fg (.bl _)⟩
      rcases hb' with rfl | rfl
      · exact .inl (dy.dp (by unfold noD; exact noDs_lay _ h.2))
      · exact .inr (dy.dp (by unfold noD; exact noDs_lay _ h.2))
    · cases e
  · cases e

/-! ## is -/
def isD (neg : Bool) (a b : PyData) : Option PyData := match a, b with
  | .none, .none => some (.bool (!neg))
  | _, .none => some (.bool neg)
  | .bool x, .bool y => some (.bool (if neg then !decide (x = y) else decide (x = y)))
  | _, _ => none
theorem is_ref_none {F H : Hp} {x : V} {a : PyData} (fg : Same F H) (sa : Sh K F H x a) : (x = .non ↔ a = .none) := by
  constructor
  · intro h
    subst h
    rcases sa with h | ⟨p, o, e, _⟩
    · cases h; rfl
    · cases e
  · intro h
    subst h
    exact sa.none
theorem sem_is : Sem2 K (fun x y H Q => (y = .non ∧ Q (.bl (decide (x = .non))) H) ∨ rIsB x y H Q) (isD false) := fun F H x y a b d Q fg sa sb e q => by
  unfold isD at e
  split at e
  · cases e; exact .inl ⟨sb.none, by rw [sa.none]; exact q.here fg (.bl _)⟩
  · rename_i hn
    cases e
    refine .inl ⟨sb.none, ?_⟩
    rw [decide_eq_false (fun z => hn ((is_ref_none fg sa).mp z))]
    exact q.here fg (.bl _)
  · cases e; exact .inr ⟨_, _, sa.bool, sb.bool, q.here fg (.bl _)⟩
  · cases e
theorem sem_isNot : Sem2 K (fun x y H Q => (y = .non ∧ Q (.bl (!decide (x = .non))) H) ∨ rNotB x y H Q) (isD true) := fun F H x y a b d Q fg sa sb e q => by
  unfold isD at e
  split at e
  · cases e; exact .inl ⟨sb.none, by rw [sa.none]; exact q.here fg (.bl _)⟩
  · rename_i hn
    cases e
    refine .inl ⟨sb.none, ?_⟩
    rw [decide_eq_false (fun z => hn ((is_ref_none fg sa).mp z))]
    exact q.here fg (.bl _)
  · cases e; exact .inr ⟨_, _, sa.bool, sb.bool, q.here fg (.bl _)⟩
  · cases e
end
section
variable {X : Cx} {c : Cfg} {a b : Expr} {fa fb : Den c.I.S} {pos : Pos}
/-! the rules by name -/
theorem pv_add (ha : PP X c a fa) (hb : PP X c b fb) : PV X c (.BinOp a .Add b pos) (dBin dAdd fa fb) := pv_bin op_addD sem_add ha hb
theorem pn_add (ha : PP X c a fa) (hb : PP X c b fb) : PN X c (.BinOp a .Add b pos) (dBin dAddL fa fb) := pn_bin op_cat sem_addL ha hb
theorem pv_sub (ha : PP X c a fa) (hb : PP X c b fb) : PV X c (.BinOp a .Sub b pos) (dBin dSub fa fb) := pv_bin op_sub sem_sub ha hb
theorem pv_mul (ha : PP X c a fa) (hb : PP X c b fb) : PV X c (.BinOp a .Mult b pos) (dBin dMul fa fb) := pv_bin op_mulD sem_mul ha hb
theorem pn_mul (ha : PP X c a fa) (hb : PP X c b fb) : PN X c (.BinOp a .Mult b pos) (dBin dMulL fa fb) := pn_bin op_rep sem_mulL ha hb
theorem pv_div (ha : PP X c a fa) (hb : PP X c b fb) : PV X c (.BinOp a .FloorDiv b pos) (dBin dDiv fa fb) := pv_bin op_fdivN sem_div ha hb
theorem pv_mod (ha : PP X c a fa) (hb : PP X c b fb) : PV X c (.BinOp a .Mod b pos) (dBin dMod fa fb) := pv_bin op_modN sem_mod ha hb
theorem pv_pow (ha : PP X c a fa) (hb : PP X c b fb) : PV X c (.BinOp a .Pow b pos) (dBin dPow fa fb) := pv_bin op_pow sem_pow ha hb
theorem pv_shl (ha : PP X c a fa) (hb : PP X c b fb) : PV X c (.BinOp a .LShift b pos) (dBin dShl fa fb) := pv_bin op_shl sem_shl ha hb
theorem pv_neg (ha : PP X c a fa) : PV X c (.UnaryOp .USub a pos) (dUn dNeg fa) := pv_un un_neg sem_neg ha
/-- comparisons: the operator's rule and what it is worth -/
structure CmpOk (X : Cx) (op : CmpOp) (g : PyData → PyData → Option PyData) : Prop where
  ex : ∃ r, OpR X (compareOp op) r ∧ Sem2 X.K r g
theorem ck_eq {k : Nat} (h : Calm X k) : CmpOk X .Eq dEq := ⟨_, op_eq.or (op_eqD h.room.units), sem_eq⟩
theorem ck_ne {k : Nat} (h : Calm X k) : CmpOk X .NotEq dNe := ⟨_, op_ne.or (op_neD h.room.units), sem_ne⟩
theorem ck_lt {k : Nat} (h : Calm X k) : CmpOk X .Lt dLt := ⟨_, op_lt.or (op_ltD h.room.units), sem_ord _ _⟩
theorem ck_gt {k : Nat} (h : Calm X k) : CmpOk X .Gt dGt := ⟨_, op_gt.or (op_gtD h.room.units), sem_ord _ _⟩
theorem ck_le {k : Nat} (h : Calm X k) : CmpOk X .LtE dLe := ⟨_, op_le.or (op_leD h.room.units), sem_ord _ _⟩
theorem ck_ge {k : Nat} (h : Calm X k) : CmpOk X .GtE dGe := ⟨_, op_ge.or (op_geD h.room.units), sem_ord _ _⟩
theorem units65 {k : Nat} (h : Calm X k) : X.A.units + 65 < cLine := by have := h.room.un; omega
theorem ck_in {k : Nat} (h : Calm X k) : CmpOk X .In (seqInD false) := ⟨_, op_inS (units65 h), sem_inS false⟩
theorem ck_notIn {k : Nat} (h : Calm X k) : CmpOk X .NotIn (seqInD true) := ⟨_, op_notInS (units65 h), sem_inS true⟩
theorem ck_is : CmpOk X .Is (isD false) := ⟨_, op_isN.or op_isBl, sem_is⟩
theorem ck_isNot : CmpOk X .IsNot (isD true) := ⟨_, op_notN.or op_notBl, sem_isNot⟩
theorem pv_cmpO {op : CmpOp} {g : PyData → PyData → Option PyData} (ho : CmpOk X op g) (ha : PP X c a fa) (hb : PP X c b fb) (hm : behindInMarks op b = false := by first | rfl | exact nomark _) : PV X c (.Compare a [op] [b] pos) (dBin g fa fb) :=
  let ⟨_, h1, h2⟩ := ho.ex; pv_cmp h1 h2 ha hb hm
theorem pb_cmpO {op : CmpOp} {g : PyData → PyData → Option PyData} (ho : CmpOk X op g) (ha : PP X c a fa) (hb : PP X c b fb) (hm : behindInMarks op b = false := by first | rfl | exact nomark _) : PB X c (.Compare a [op] [b] pos) (dB (dBin g fa fb)) :=
  let ⟨_, h1, h2⟩ := ho.ex; pb_cmp h1 h2 ha hb hm
theorem pv_chainO {op op' : CmpOp} {g g' : PyData → PyData → Option PyData} {e : Expr} {fe : Den c.I.S} (ho : CmpOk X op g) (ho' : CmpOk X op' g') (ha : PP X c a fa) (hb : PP X c b fb) (he : PP X c e fe) (hm : lastMarks [op, op'] [b, e] = false := by with_unfolding_all rfl) :
    PV X c (.Compare a [op, op'] [b, e] pos) (dChain g g' fa fb fe) :=
  let ⟨_, h1, h2⟩ := ho.ex; let ⟨_, h3, h4⟩ := ho'.ex; pv_chain h1 h2 h3 h4 ha hb he hm
theorem pb_chainO {op op' : CmpOp} {g g' : PyData → PyData → Option PyData} {e : Expr} {fe : Den c.I.S} (ho : CmpOk X op g) (ho' : CmpOk X op' g') (ha : PP X c a fa) (hb : PP X c b fb) (he : PP X c e fe) (hm : lastMarks [op, op'] [b, e] = false := by with_unfolding_all rfl) :
    PB X c (.Compare a [op, op'] [b, e] pos) (dB (dChain g g' fa fb fe)) :=
  let ⟨_, h1, h2⟩ := ho.ex; let ⟨_, h3, h4⟩ := ho'.ex; pb_chain h1 h2 h3 h4 ha hb he hm
end
end DL

set_option Elab.async false
set_option linter.all false
set_option maxRecDepth 100000
namespace DL
open PySem PySem.Spec PyProof.Rows L2

/-! ## sorted, over whatever was collected -/
section
variable {prog : Program} {w : World} {A : Around} {E : Value → Shared → Prop} {s : Shared} {β : Type}
theorem sorted_from {x : Value} {vs : List Value} {ds : List PyData} {R : Value → PyData → Prop} {Q : Value → Shared → Prop}
    (hcol : ∀ S : List Value → Shared → Prop, (∀ (h' : Heap) (tk : Nat), (∀ b o, s.heap.get? b = some o → h'.get? b = some o) → S vs { s with heap := h', toks := tk }) → wpAny (model prog w) A.in1 (collect x) S E s)
    (e : PySem.W.EachIs R vs ds) (er : PySem.W.EachIs (fun v d => ∃ as, Reads s.heap v d as ∧ ∀ b ∈ as, ∃ o, s.heap.get? b = some o) vs ds) (hal : PySem.W.AllAlike ds) (hk : PySem.W.Sortable ds) (hL : ds.length ≤ sizeLine)
    (hu : ∀ d, d ∈ ds → A.units + 2 + d.depth < cLine)
    (h : ∀ (out : List Value) (h1 h2 : Heap) (tk : Nat), out.length = ds.length → PySem.W.EachIs R out (ds.mergeSort (PySem.W.dataLe false id)) → (∀ b o, s.heap.get? b = some o → h1.get? b = some o) → (∃ n, h2.get? h1.objs.size = some (seqObj "list" out.toArray n)) →
      (∀ b o, h1.get? b = some o → h2.get? b = some o) → Q (.ref h1.objs.size) { s with heap := h2, toks := tk }) :
    wpAny (model prog w) A (call (.builtin "sorted") [x]) Q E s := by
  refine Calls.call_function_entry kind_sorted plain_sorted entry_sorted (args_sorted1 _) ?_
  unfold Builtin.«sorted»
  refine wpAny_bind (m := checkCount "sorted" 1 1 _) (wpAny_pure ?_)
  refine wpAny_bind (hcol _ fun h1 tk k1 => ?_)
  have hlen : vs.length = ds.length := e.length
  refine wpAny_bind (wpAny_newList ?_ (by rw [hlen]; exact hL))
  have ho : (h1.push { cls := .type "list", data := .seq vs.toArray }).get? h1.objs.size = some (seqObj "list" vs.toArray 0) := Heap.get?_push_size _ rfl
  have k2 : ∀ b o, h1.get? b = some o → (h1.push { cls := .type "list", data := .seq vs.toArray }).get? b = some o := fun b o q => Heap.get?_push_of_some _ q
  have er2 : PySem.W.EachIs (fun v d => ∃ as, Reads (h1.push { cls := .type "list", data := .seq vs.toArray }) v (id d) as ∧ h1.objs.size ∉ as) vs ds := er.mono fun v d q => by
    obtain ⟨as, r, lt⟩ := q
    refine ⟨as, PyProof.Rows.Reads.keeps (fun b o q => k2 _ _ (k1 _ _ q)) r, fun z => ?_⟩
    obtain ⟨o, q⟩ := lt _ z
    exact Nat.lt_irrefl _ (Heap.lt_size (k1 _ _ q))
  have hu2 : ∀ d, d ∈ ds → A.in1.units + 1 + (id d).depth < cLine := fun d hd => by
    have := hu d hd
    show A.units + 1 + 1 + d.depth < cLine
    omega
  refine wpAny_bind (wpAny_holding (PySem.W.list_sort_data (R := R) (enc := id) (bs := ds) (vs := vs) ho e er2 (by rw [List.map_id]; exact hal) (by rw [List.map_id]; exact hk) hL hu2 fun out ho2 eo => ?_))
  obtain ⟨n2, hat⟩ := sortedHeap_at (out := out.toArray) ho
  refine wpAny_pure ⟨_, rfl, h out h1 _ tk ho2 eo k1 ⟨n2, hat⟩ fun b o q => ?_⟩
  have hb : b < h1.objs.size := Heap.lt_size q
  exact (sortedHeap_old (Nat.ne_of_lt hb) (Heap.lt_size (k2 _ _ q))).trans (k2 _ _ q)
end

/-! ## reading is one-valued, and reads what is there -/
mutual
theorem reads_inj {h : Heap} : ∀ {d e : PyData} {v : Value} {as bs : List Addr}, d.canLay0 = true → Reads h v d as → Reads h v e bs → e.canLay0 = true → d = e
  | .none, e, v, _, _, _, r, q, _ => by cases r; cases q; rfl
  | .bool b, e, v, _, _, _, r, q, _ => by cases r; cases q; rfl
  | .int b, e, v, _, _, _, r, q, _ => by cases r; cases q; rfl
  | .str b, e, v, _, _, _, r, q, _ => by cases r; cases q; rfl
  | .dict _, _, _, _, _, hl, _, _, _ => by unfold PyData.canLay0 at hl; cases hl
  | .list xs, e, v, _, _, hl, r, q, hl2 => by
    cases r with
    | list h1 h2 h3 h4 =>
      cases q with
      | list g1 g2 g3 g4 =>
        rw [h1] at g1; cases g1
        rw [h3] at g3; cases g3
        unfold PyData.canLay0 at hl hl2
        rw [readsAll_inj hl h4 g4 hl2]
      | tuple g1 g2 g3 g4 => rw [h1] at g1; cases g1; exact absurd (Value.type.inj (h2.symm.trans g2)) (by decide)
      | dict g1 g2 g3 g4 g5 => rw [h1] at g1; cases g1; exact absurd (Value.type.inj (h2.symm.trans g2)) (by decide)
  | .tuple xs, e, v, _, _, hl, r, q, hl2 => by
    cases r with
    | tuple h1 h2 h3 h4 =>
      cases q with
      | tuple g1 g2 g3 g4 =>
        rw [h1] at g1; cases g1
        rw [h3] at g3; cases g3
        unfold PyData.canLay0 at hl hl2
        rw [readsAll_inj hl h4 g4 hl2]
      | list g1 g2 g3 g4 => rw [h1] at g1; cases g1; exact absurd (Value.type.inj (h2.symm.trans g2)) (by decide)
      | dict g1 g2 g3 g4 g5 => rw [h1] at g1; cases g1; exact absurd (Value.type.inj (h2.symm.trans g2)) (by decide)
theorem readsAll_inj {h : Heap} : ∀ {ds es : List PyData} {vs : List Value} {as bs : List Addr}, PyData.canLayAll0 ds = true → ReadsAll h vs ds as → ReadsAll h vs es bs → PyData.canLayAll0 es = true → ds = es
  | [], _, _, _, _, _, r, q, _ => by cases r; cases q; rfl
  | d :: ds, _, _, _, _, hl, r, q, hl2 => by
    cases r with
    | cons a b =>
      cases q with
      | cons a2 b2 =>
        unfold PyData.canLayAll0 at hl hl2
        rw [Bool.and_eq_true] at hl hl2
        rw [reads_inj hl.1 a a2 hl2.1, readsAll_inj hl.2 b b2 hl2.2]
end
mutual
theorem reads_there {h : Heap} : ∀ {d : PyData} {v : Value} {as : List Addr}, d.canLay0 = true → Reads h v d as → ∀ b ∈ as, ∃ o, h.get? b = some o
  | .none, v, _, _, r, b, hb => by cases r; cases hb
  | .bool _, v, _, _, r, b, hb => by cases r; cases hb
  | .int _, v, _, _, r, b, hb => by cases r; cases hb
  | .str _, v, _, _, r, b, hb => by cases r; cases hb
  | .dict _, _, _, hl, _, _, _ => by unfold PyData.canLay0 at hl; cases hl
  | .list xs, v, _, hl, r, b, hb => by
    cases r with
    | list h1 h2 h3 h4 =>
      rcases List.mem_cons.mp hb with z | z
      · subst z; exact ⟨_, h1⟩
      · unfold PyData.canLay0 at hl; exact readsAll_there hl h4 b z
  | .tuple xs, v, _, hl, r, b, hb => by
    cases r with
    | tuple h1 h2 h3 h4 => unfold PyData.canLay0 at hl; exact readsAll_there hl h4 b hb
theorem readsAll_there {h : Heap} : ∀ {ds : List PyData} {vs : List Value} {as : List Addr}, PyData.canLayAll0 ds = true → ReadsAll h vs ds as → ∀ b ∈ as, ∃ o, h.get? b = some o
  | [], _, _, _, r, b, hb => by cases r; cases hb
  | d :: ds, _, _, hl, r, b, hb => by
    cases r with
    | cons x y =>
      unfold PyData.canLayAll0 at hl
      rw [Bool.and_eq_true] at hl
      rcases List.mem_append.mp hb with z | z
      · exact reads_there hl.1 x b z
      · exact readsAll_there hl.2 y b z
end

/-! ## an insertion sort that is the library's -/
section
variable {α : Type} (le : α → α → Bool)
def ins (x : α) : List α → List α
  | [] => [x]
  | y :: ys => if le x y = true then x :: y :: ys else y :: ins x ys
def isort : List α → List α
  | [] => []
  | x :: xs => ins le x (isort xs)
variable {le}
theorem ins_mem {x z : α} : ∀ {l : List α}, z ∈ ins le x l ↔ z = x ∨ z ∈ l
  | [] => by simp [ins]
  | y :: ys => by
    unfold ins
    split
    · simp
    · simp [ins_mem (l := ys)]
      constructor
      · rintro (h | h | h)
        · exact .inr (.inl h)
        · exact .inl h
        · exact .inr (.inr h)
      · rintro (h | h | h)
        · exact .inr (.inl h)
        · exact .inl h
        · exact .inr (.inr h)
theorem ins_pair (T : PySem.W.TotalLe le) {x : α} : ∀ {l : List α}, l.Pairwise (fun a b => le a b = true) → (ins le x l).Pairwise (fun a b => le a b = true)
  | [], _ => by simp [ins]
  | y :: ys, h => by
    unfold ins
    obtain ⟨h1, h2⟩ := List.pairwise_cons.mp h
    split
    · rename_i q
      refine List.pairwise_cons.mpr ⟨fun z hz => ?_, h⟩
      rcases List.mem_cons.mp hz with rfl | hz
      · exact q
      · exact T.trans _ _ _ q (h1 z hz)
    · rename_i q
      refine List.pairwise_cons.mpr ⟨fun z hz => ?_, ins_pair T h2⟩
      rcases ins_mem.mp hz with rfl | hz
      · exact (T.total z y).resolve_left q
      · exact h1 z hz
theorem isort_pair (T : PySem.W.TotalLe le) : ∀ l : List α, (isort le l).Pairwise (fun a b => le a b = true)
  | [] => List.Pairwise.nil
  | x :: xs => ins_pair T (isort_pair T xs)
theorem ins_filter (T : PySem.W.TotalLe le) {x c : α} : ∀ {l : List α}, (ins le x l).filter (PySem.W.sameRank le c) = (x :: l).filter (PySem.W.sameRank le c)
  | [] => rfl
  | y :: ys => by
    unfold ins
    split
    · rfl
    · rename_i q
      rw [List.filter_cons, ins_filter T (l := ys), List.filter_cons, List.filter_cons, List.filter_cons]
      by_cases hx : PySem.W.sameRank le c x = true
      · have hy : ¬ PySem.W.sameRank le c y = true := fun hy => q (by
          unfold PySem.W.sameRank at hx hy
          rw [Bool.and_eq_true] at hx hy
          exact T.trans _ _ _ hx.2 hy.1)
        rw [if_neg hy, if_pos hx, if_pos hx, if_neg hy]
      · rw [if_neg hx, if_neg hx]
theorem isort_filter (T : PySem.W.TotalLe le) (c : α) : ∀ l : List α, (isort le l).filter (PySem.W.sameRank le c) = l.filter (PySem.W.sameRank le c)
  | [] => rfl
  | x :: xs => by
    show (ins le x (isort le xs)).filter _ = _
    rw [ins_filter T, List.filter_cons, List.filter_cons, isort_filter T c xs]
theorem isort_eq (T : PySem.W.TotalLe le) (l : List α) : l.mergeSort le = isort le l := (PySem.W.sort_unique T (isort_pair T l) fun c => isort_filter T c l).symm
end
def leD (a b : PyData) : Bool := !PySem.W.dataLt b a
theorem leD_eq : PySem.W.dataLe false (id : PyData → PyData) = leD := by
  rw [PySem.W.dataLe_eq]
  rfl
theorem leD_total : PySem.W.TotalLe leD := by
  rw [← leD_eq]
  exact PySem.W.sortLe_total _ _ _
def sortD (ds : List PyData) : List PyData := isort leD ds
theorem sortD_eq (ds : List PyData) : ds.mergeSort (PySem.W.dataLe false id) = sortD ds := by
  rw [leD_eq]
  exact isort_eq leD_total ds
end DL

set_option Elab.async false
set_option linter.all false
set_option maxRecDepth 100000
namespace DL
open PySem PySem.Spec PyProof.Rows L2

/-! ## built-ins by name -/
structure BiOk (X : Cx) (x : Str) (g : List PyData → Option PyData) : Prop where
  ex : (∃ id r, CallR X (.builtin id) r ∧ SemL X.K r g ∧ X.mg x = none ∧ bootBuiltins x = some (.builtin id)) ∨ (∃ T r, CallR X (.type T) r ∧ SemL X.K r g ∧ X.mg x = none ∧ bootBuiltins x = some (.type T)) ∨
    ∃ id r, CallR X (.builtin id) r ∧ SemL X.K r g ∧ X.mg x = some (.builtin id)
structure BnOk (X : Cx) (x : Str) (g : List PyData → Option PyData) : Prop where
  ex : (∃ id r, CallR X (.builtin id) r ∧ SemLN X.K r g ∧ X.mg x = none ∧ bootBuiltins x = some (.builtin id)) ∨ (∃ T r, CallR X (.type T) r ∧ SemLN X.K r g ∧ X.mg x = none ∧ bootBuiltins x = some (.type T))
theorem BnOk.bi {X : Cx} {x : Str} {g : List PyData → Option PyData} (h : BnOk X x g) : BiOk X x g := by
  rcases h.ex with ⟨id, r, a, b, c, d⟩ | ⟨id, r, a, b, c, d⟩
  · exact ⟨.inl ⟨id, r, a, b.out, c, d⟩⟩
  · exact ⟨.inr (.inl ⟨id, r, a, b.out, c, d⟩)⟩
section
variable {X : Cx} {c : Cfg} {x : Str} {g : List PyData → Option PyData} {p pos : Pos} {e : Expr} {es : List Expr} {fs : DenA c.I.S}
theorem pv_bi (h : BiOk X x g) (hg : Gl X x) (ha : PAp X c (e :: es) fs) (hn : x ≠ "__name__" := by decide) (hdb : (x == ("__debug__" : Str)) = false := by decide)
    (he : starEach (e :: es) X.env = (false, eval e X.env) :: starEach es X.env := by rfl) (hpl : (backTo pos (starEach es X.env)).any (·.1) = false := by rfl) : PV X c (.Call (.Name x p) (e :: es) [] pos) (dApp g fs) := by
  rcases h.ex with ⟨id, r, h1, h2, h3, h4⟩ | ⟨T, r, h1, h2, h3, h4⟩ | ⟨id, r, h1, h2, h3⟩
  · exact (pe_callB h1 hg h3 h4 ha hn hdb he hpl).imp (app_of h2)
  · exact (pe_callTy h1 hg h3 h4 ha hn hdb he hpl).imp (app_of h2)
  · exact (pe_callBfun h1 hg h3 ha hdb he hpl).imp (app_of h2)
theorem pn_bi (h : BnOk X x g) (hg : Gl X x) (ha : PAp X c (e :: es) fs) (hn : x ≠ "__name__" := by decide) (hdb : (x == ("__debug__" : Str)) = false := by decide)
    (he : starEach (e :: es) X.env = (false, eval e X.env) :: starEach es X.env := by rfl) (hpl : (backTo pos (starEach es X.env)).any (·.1) = false := by rfl) : PN X c (.Call (.Name x p) (e :: es) [] pos) (dApp g fs) := by
  rcases h.ex with ⟨id, r, h1, h2, h3, h4⟩ | ⟨T, r, h1, h2, h3, h4⟩
  · exact (pe_callB h1 hg h3 h4 ha hn hdb he hpl).imp (appN_of h2)
  · exact (pe_callTy h1 hg h3 h4 ha hn hdb he hpl).imp (appN_of h2)
end
theorem sh1 {K : PySem.W.Frag} {F G : Hp} {xs : List V} {a : PyData} (h : ShAll K F G xs [a]) : ∃ x, xs = [x] ∧ Sh K F G x a := by
  cases h with
  | cons h1 h2 => cases h2; exact ⟨_, rfl, h1⟩
theorem sh2 {K : PySem.W.Frag} {F G : Hp} {xs : List V} {a b : PyData} (h : ShAll K F G xs [a, b]) : ∃ x y, xs = [x, y] ∧ Sh K F G x a ∧ Sh K F G y b := by
  cases h with
  | cons h1 h2 => cases h2 with | cons h2 h3 => cases h3; exact ⟨_, _, rfl, h1, h2⟩
section
variable {X : Cx} {K : PySem.W.Frag}
theorem kv_len {F : Hp} {kvs : List (Key × V)} {ds : List (PyData × PyData)} (r : RpKv K F kvs ds) : kvs.length = ds.length := by
  induction kvs generalizing ds with
  | nil => cases r; rfl
  | cons k ks ih => cases r with | cons a b => simp [ih b]
theorem tv_len {F : Hp} {kvs : List (List Key × V)} {ds : List (PyData × PyData)} (r : RpTv K F kvs ds) : kvs.length = ds.length := by
  induction kvs generalizing ds with
  | nil => cases r; rfl
  | cons k ks ih => cases r with | cons a b => simp [ih b]
theorem kv_notag {F : Hp} {kvs : List (Key × V)} {ds : List (PyData × PyData)} (r : RpKv K F kvs (tagT :: ds)) : False := by
  generalize e : tagT :: ds = l at r
  cases r with
  | nil => cases e
  | @cons k _ _ _ _ _ _ =>
    have h := (List.cons.inj e).1
    have h2 : PyData.list [] = kD k := congrArg (·.1) h
    cases k <;> cases h2
def dLen : List PyData → Option PyData
  | [.list ds] => some (.int ds.length)
  | [.tuple ds] => some (.int ds.length)
  | [.dict ((.list [], .none) :: ds)] => some (.int ds.length)
  | [.dict ds] => some (.int ds.length)
  | _ => none
abbrev rLen (K : PySem.W.Frag) : List V → Hp → VK → Prop := fun xs H Q => (fun xs H Q => (∃ p ys, xs = [.ref p] ∧ (SqL K H p ys ∨ SqT K H p ys) ∧ Q (.int ys.length) H) ∨ ∃ a kvs, xs = [V.ref a] ∧ H a = some (.dK kvs) ∧ Q (.int kvs.length) H) xs H Q ∨ rLenT xs H Q
theorem bi_len (hm : X.mg "len" = none) : BiOk X "len" dLen := ⟨.inl ⟨"len", rLen X.K, (call_len_seq.or call_lenD).or call_len_dT, (fun F H xs as d Q fg sa e q => by
  unfold dLen at e
  split at e
  · cases e
    obtain ⟨x, rfl, s⟩ := sh1 sa
    obtain ⟨a, vs, rfl, ha, r⟩ := s.list fg
    exact .inl (.inl ⟨a, vs, rfl, .inl (seqL_inj ha), by rw [r.length]; exact q.here fg (.int _)⟩)
  · cases e
    obtain ⟨x, rfl, s⟩ := sh1 sa
    obtain ⟨a, vs, rfl, ha, r⟩ := s.tuple
    exact .inl (.inl ⟨a, vs, rfl, .inr (seqT_inj (fg _ _ ha)), by rw [r.length]; exact q.here fg (.int _)⟩)
  · cases e
    obtain ⟨x, rfl, s⟩ := sh1 sa
    rcases s.dict fg with ⟨a, kvs, rfl, ha, r⟩ | ⟨a, kvs, ds', rfl, ha, ed, r⟩
    · exact (kv_notag r).elim
    · cases ed; exact .inr ⟨a, kvs, rfl, ha, by rw [tv_len r]; exact q.here fg (.int _)⟩
  · rename_i ds hn
    cases e
    obtain ⟨x, rfl, s⟩ := sh1 sa
    rcases s.dict fg with ⟨a, kvs, rfl, ha, r⟩ | ⟨a, kvs, ds', rfl, ha, ed, r⟩
    · exact .inl (.inr ⟨a, kvs, rfl, ha, by rw [kv_len r]; exact q.here fg (.int _)⟩)
    · exact (hn _ ed).elim
  · cases e), hm, boot_len⟩⟩
def dAbs : List PyData → Option PyData
  | [.int i] => some (.int (if i < 0 then -i else i))
  | _ => none
theorem bi_abs (hm : X.mg "abs" = none) : BiOk X "abs" dAbs := ⟨.inl ⟨"abs", _, call_abs, (fun F H xs as d Q fg sa e q => by
  unfold dAbs at e
  split at e
  · cases e
    obtain ⟨x, rfl, s⟩ := sh1 sa
    exact ⟨_, by rw [s.int], q.here fg (.int _)⟩
  · cases e), hm, by decide +kernel⟩⟩
def dInt : List PyData → Option PyData
  | [.int i] => some (.int i)
  | [.bool k] => some (.int (if k = true then 1 else 0))
  | _ => none
theorem bi_int (hm : X.mg "int" = none) : BiOk X "int" dInt := ⟨.inr (.inl ⟨"int", _, call_int1, (fun F H xs as d Q fg sa e q => by
  unfold dInt at e
  split at e
  · cases e
    obtain ⟨x, rfl, s⟩ := sh1 sa
    exact .inl ⟨_, by rw [s.int], q.here fg (.int _)⟩
  · cases e
    obtain ⟨x, rfl, s⟩ := sh1 sa
    exact .inr ⟨_, by rw [s.bool], q.here fg (.int _)⟩
  · cases e), hm, by decide +kernel⟩)⟩
/-- the best of some data, by the library's order -/
def bestOk (ds : List PyData) : Bool := (ds.all fun d => ds.all fun d' => PySem.W.alike d d') && ds.all (fun d => (match d with | .none => false | _ => true) && SeqAt.shaped d)
def minL : List PyData → Option PyData
  | x :: xs => if bestOk (x :: xs) = true then some (PySem.W.minD x xs) else none
  | [] => none
def maxL : List PyData → Option PyData
  | x :: xs => if bestOk (x :: xs) = true then some (PySem.W.maxD x xs) else none
  | [] => none
def dMin : List PyData → Option PyData
  | [.int i, .int j] => some (.int (if j < i then j else i))
  | [a] => (itemsD a).bind minL
  | [.tuple xs, .tuple ys] => minL [.tuple xs, .tuple ys]
  | _ => none
def dMax : List PyData → Option PyData
  | [.int i, .int j] => some (.int (if j > i then j else i))
  | [a] => (itemsD a).bind maxL
  | _ => none
theorem bestOk_inv {ds : List PyData} (h : bestOk ds = true) : PySem.W.AlikeAll ds ∧ (∀ d ∈ ds, SeqAt.shaped d = true) := by
  unfold bestOk at h
  rw [Bool.and_eq_true, List.all_eq_true, List.all_eq_true] at h
  refine ⟨⟨fun x hx y hy => ?_, fun x hx e => ?_⟩, fun d hd => ?_⟩
  · exact List.all_eq_true.mp (h.1 x hx) y hy
  · have := h.2 x hx
    subst e
    cases this
  · have := h.2 d hd
    rw [Bool.and_eq_true] at this
    exact this.2
theorem depthAll_le : ∀ {ds : List PyData} {n : Nat}, (∀ d ∈ ds, d.depth ≤ n) → PyData.depthAll ds ≤ n
  | [], _, _ => Nat.zero_le _
  | d :: ds, n, h => by
    show max d.depth (PyData.depthAll ds) ≤ n
    exact Nat.max_le.mpr ⟨h d List.mem_cons_self, depthAll_le fun e he => h e (List.mem_cons_of_mem _ he)⟩
theorem canLayAll_of : ∀ {ds : List PyData}, (∀ d ∈ ds, d.canLay0 = true) → PyData.canLayAll0 ds = true
  | [], _ => rfl
  | d :: ds, h => by
    show (d.canLay0 && PyData.canLayAll0 ds) = true
    rw [h d List.mem_cons_self, canLayAll_of fun e he => h e (List.mem_cons_of_mem _ he)]; rfl
theorem dpAll_of {F H : Hp} {vs : List V} {ds : List PyData} (fg : Same F H) (r : RpAll K F vs ds) (h : ∀ d ∈ ds, SeqAt.shaped d = true) : DpAll K H vs ds :=
  (r.mono fg).dp (noDs_lay _ (canLayAll_of fun d hd => SeqAt.canLay_of_shaped (h d hd)))
def rBest (K : PySem.W.Frag) (best : PyData → List PyData → PyData) : List V → Hp → VK → Prop := fun xs H Q => ∃ a vs d ds F, xs = [.ref a] ∧ (H a = some (.lst vs) ∨ H a = some (.tup vs)) ∧ Same F H ∧ RpAll K F vs (d :: ds) ∧ bestOk (d :: ds) = true ∧ ∀ v, Rp K F v (best d ds) → Q v H
theorem minD_mem (d : PyData) : ∀ ds : List PyData, PySem.W.minD d ds ∈ d :: ds := fun ds => by
  unfold PySem.W.minD
  induction ds generalizing d with
  | nil => simp
  | cons x xs ih =>
    rw [List.foldl_cons]
    have := ih (if PySem.W.dataLt x d = true then x else d)
    split at this <;> rename_i q
    · rw [if_pos q]; exact List.mem_cons_of_mem _ this
    · rw [if_neg q]
      rcases List.mem_cons.mp this with e | e
      · rw [e]; exact List.mem_cons_self
      · exact List.mem_cons_of_mem _ (List.mem_cons_of_mem _ e)
theorem maxD_mem (d : PyData) : ∀ ds : List PyData, PySem.W.maxD d ds ∈ d :: ds := fun ds => by
  unfold PySem.W.maxD
  induction ds generalizing d with
  | nil => simp
  | cons x xs ih =>
    rw [List.foldl_cons]
    have := ih (if PySem.W.dataLt d x = true then x else d)
    split at this <;> rename_i q
    · rw [if_pos q]; exact List.mem_cons_of_mem _ this
    · rw [if_neg q]
      rcases List.mem_cons.mp this with e | e
      · rw [e]; exact List.mem_cons_self
      · exact List.mem_cons_of_mem _ (List.mem_cons_of_mem _ e)
theorem best_end {H F : Hp} {h' : Heap} {pins : List (Addr × Obj)} {σ : L2.St} {s : Shared} {tk : Nat} {its : List Value} {vs : List V} {ds : List PyData} {b : PyData} {i : Nat} {v : Value} {bs : List Addr} {Q : VK} (I : Inv X pins σ H s) (fg : Same F H) (rv : Vals vs its) (r : RpAll X.K F vs ds) (hs : ∀ d ∈ ds, SeqAt.shaped d = true) (hb : b ∈ ds)
    (hv : its.toArray[i]? = some v) (rd : Reads h' v b bs) (hk : ∀ b o, s.heap.get? b = some o → h'.get? b = some o) (q : ∀ v, Rp X.K F v b → Q v H) : EP X pins σ Q v { s with heap := h', toks := tk } := by
  have I' : Inv X pins σ H { s with heap := h', toks := tk } := I.kept hk
  have hv2 : its[i]? = some v := by simpa using hv
  have hi : i < vs.length := by rw [rv.length]; exact (List.getElem?_eq_some_iff.mp hv2).1
  have hx : vs[i]? = some vs[i] := List.getElem?_eq_getElem hi
  obtain ⟨u, hu, ru⟩ := rv.get hx
  rw [hv2] at hu
  cases hu
  obtain ⟨e, he, re⟩ := r.getV hx
  have hem : e ∈ ds := List.mem_of_getElem? he
  have se := hs e hem
  obtain ⟨as, rr⟩ := Dp.reads I' e vs[i] v ((re.mono fg).dp (noD_lay _ (SeqAt.canLay_of_shaped se))) ru
  have ee := reads_inj (SeqAt.canLay_of_shaped se) rr rd (SeqAt.canLay_of_shaped (hs b hb))
  subst ee
  exact ⟨vs[i], H, I', ru, q _ re⟩
theorem cr_minD {k : Nat} (hc : Calm X k) (cm : X.calm = true) : CallR X (.builtin "min") (rBest X.K PySem.W.minD) := by
  intro pins s σ H xs us Q I r ⟨a, vs, d, ds, F, ex, ha, fg, ra, hb, q⟩
  subst ex
  obtain ⟨u, rfl, ru⟩ := vals1 r
  cases ru
  obtain ⟨al, hs⟩ := bestOk_inv hb
  have hu : X.A.units + 1 + PyData.depthAll (d :: ds) < cLine := by
    have h1 : PyData.depthAll (d :: ds) ≤ 64 := depthAll_le fun e he => SeqAt.depth_of_shaped (hs e he)
    have := hc.room.un
    omega
  have hdp := dpAll_of fg ra hs
  rcases ha with ha | ha
  · obtain ⟨its, rv, pl, _⟩ := I.list (seqL_inj ha)
    obtain ⟨as, rr⟩ := Dp.readsAll I _ _ its hdp rv
    exact PySem.W.min_list_data (I.ok.hd cm) pl.isList (by simpa using rr) al hu fun i v h' tk bs hv rd hk => best_end I fg rv ra hs (minD_mem d ds) hv rd hk q
  · obtain ⟨its, rv, pl, _⟩ := I.tuple (seqT_inj ha)
    obtain ⟨as, rr⟩ := Dp.readsAll I _ _ its hdp rv
    exact PySem.W.min_tuple_data (I.ok.hd cm) pl (by simpa using rr) al hu fun i v h' tk bs hv rd hk => best_end I fg rv ra hs (minD_mem d ds) hv rd hk q
/-- min(x, y) -/
theorem min_pairH {prog : Program} {w : World} {A : Around} {E : Value → Shared → Prop} {s : Shared} {u v : Value} {Q : Value → Shared → Prop}
    (h : wpAny (model prog w) A.in1 (pyIter (.ref s.heap.objs.size)) (fun it s2 => ∃ I fp wr G n P St H bt, it = .ref I ∧ WalksS prog w A.in1 I fp wr G n P St ∧ St 0 s2 ∧ (∀ b ∈ fp, b < s2.heap.objs.size) ∧ 0 < n ∧
      (∀ b o, H.get? b = some o → b ∉ wr) ∧ (∀ b o, H.get? b = some o → s2.heap.get? b = some o) ∧ CmpIn prog w A.in1 .Lt H P bt ∧ ∀ v s', P (argBest bt (n - 1)) v → Moved wr G s2 s' → Q v s') E { s with heap := s.heap.push { cls := .type "tuple", data := .seq #[u, v] } }) :
    wpAny (model prog w) A (call (.builtin "min") [u, v]) Q E s := by
  have hname : (toString "min" ++ toString ".loop" : String) = "min.loop" := by decide
  refine call_function_tree F.kind_min F.plain_min F.entry_min (F.args_min2 _ _) ?_
  show wpAny _ A.in1 (Builtin.Builtins.bindParams "min" ["key", "default"] 0 ⟨[], []⟩ >>= _) _ _ s
  refine wpAny_bind (wpAny_of_eq (show Builtin.Builtins.bindParams "min" ["key", "default"] 0 ⟨[], []⟩ = pure [none, none] from rfl) ?_)
  show wpAny _ A.in1 (newTuple [u, v] >>= _) _ _ s
  refine wpAny_bind (wpAny_newObj_type ?_)
  refine wpAny_bind (wpAny_mono h (fun it s2 h2 => ?_) fun _ _ e => e)
  obtain ⟨I, fp, wr, G, n, P, St, H, bt, rfl, W, hst, hfp, hn, hw, hkeep, hcmp, hQ⟩ := h2
  refine wpAny_bind (wpAny_newObj_type ?_)
  have hSf : s2.heap.objs.size ∉ fp := fun hm => Nat.lt_irrefl _ (hfp _ hm)
  rw [hname]
  refine wpAny_pure ⟨plainId_quiet F.plain_min_loop _, codeAny_min_loop_firstH W H hw bt hcmp s2.heap.objs.size hSf (fresh_in hkeep) _ hn (fun b o e => Heap.get?_push_of_some _ (hkeep b o e)) (W.frame 0 s2 _ s2.toks hst (Nat.le_refl _) fun b _ o e => Heap.get?_push_of_some _ e) (Heap.get?_push_size _ rfl) fun v s' hP hm => ?_⟩
  exact hQ v s' hP (Moved.drop_new (tk := s2.toks) hm (Nat.le_refl _))
def rBest2 (K : PySem.W.Frag) (best : PyData → List PyData → PyData) : List V → Hp → VK → Prop := fun xs H Q => ∃ d e F, Same F H ∧ RpAll K F xs [d, e] ∧ bestOk [d, e] = true ∧ ∀ v, Rp K F v (best d [e]) → Q v H
theorem cr_min2D {k : Nat} (hc : Calm X k) (cm : X.calm = true) : CallR X (.builtin "min") (rBest2 X.K PySem.W.minD) := by
  intro pins s σ H xs us Q I r ⟨d, e, F, fg, ra, hb, q⟩
  obtain ⟨al, hs⟩ := bestOk_inv hb
  have hu : X.A.units + 1 + PyData.depthAll [d, e] < cLine := by
    have h1 : PyData.depthAll [d, e] ≤ 64 := depthAll_le fun z hz => SeqAt.depth_of_shaped (hs z hz)
    have := hc.room.un
    omega
  have hdp := dpAll_of fg ra hs
  obtain ⟨as, rr⟩ := Dp.readsAll I _ _ us hdp r
  have hul : us.length = 2 := by rw [← r.length, ra.length]; rfl
  obtain ⟨u, v, rfl⟩ : ∃ u v, us = [u, v] := by
    match us, hul with
    | [u, v], _ => exact ⟨u, v, rfl⟩
  refine min_pairH ?_
  have k1 : ∀ b o, s.heap.get? b = some o → (s.heap.push { cls := .type "tuple", data := .seq #[u, v] }).get? b = some o := fun b o e => Heap.get?_push_of_some _ e
  have I1 : Inv X pins σ H { s with heap := s.heap.push { cls := .type "tuple", data := .seq #[u, v] } } := I.kept (t' := s.toks) k1
  have hT : (s.heap.push { cls := .type "tuple", data := .seq #[u, v] }).IsTuple s.heap.objs.size #[u, v] := ⟨_, Heap.get?_push_size _ rfl, rfl, 0, rfl⟩
  obtain ⟨as1, rr1⟩ := Dp.readsAll I1 _ _ [u, v] hdp r
  refine PySem.W.iter_tupleW (A := X.A.in1) (s := { s with heap := s.heap.push { cls := .type "tuple", data := .seq #[u, v] } }) (I.ok.hd cm) hT fun s2 e2 W st hfp hw hk => ?_
  refine ⟨_, _, _, _, _, _, _, s.heap.push { cls := .type "tuple", data := .seq #[u, v] }, _, rfl, W, st, hfp, Nat.succ_pos _, hw, hk, PySem.W.cmpIn_lt (A := X.A.in1) (s := { s with heap := s.heap.push { cls := .type "tuple", data := .seq #[u, v] } }) (vs := #[u, v]) rr1 al (by show X.A.units + 1 + _ < _; exact hu), fun z s' hP m => ?_⟩
  obtain ⟨h', tk, rfl, hk'⟩ := PySem.W.moved_old e2 rfl m
  obtain ⟨bs, rz, _, _, _⟩ := PySem.W.readsAll_atA (vs := #[u, v]) rr1 _ z hP
  have e3 := (PySem.W.argBest_fold PySem.W.dataLt PyData.none d [e] 1 (by simp)).2
  have rd : Reads h' z (PySem.W.minD d [e]) bs := PySem.W.reads_keeps hk' (by unfold PySem.W.minD; rw [show [e] = List.take 1 [e] from rfl, ← e3]; exact rz)
  exact best_end I1 fg r ra hs (minD_mem d [e]) (by simpa using hP) rd hk' q
theorem cr_maxD {k : Nat} (hc : Calm X k) (cm : X.calm = true) : CallR X (.builtin "max") (rBest X.K PySem.W.maxD) := by
  intro pins s σ H xs us Q I r ⟨a, vs, d, ds, F, ex, ha, fg, ra, hb, q⟩
  subst ex
  obtain ⟨u, rfl, ru⟩ := vals1 r
  cases ru
  obtain ⟨al, hs⟩ := bestOk_inv hb
  have hu : X.A.units + 1 + PyData.depthAll (d :: ds) < cLine := by
    have h1 : PyData.depthAll (d :: ds) ≤ 64 := depthAll_le fun e he => SeqAt.depth_of_shaped (hs e he)
    have := hc.room.un
    omega
  have hdp := dpAll_of fg ra hs
  rcases ha with ha | ha
  · obtain ⟨its, rv, pl, _⟩ := I.list (seqL_inj ha)
    obtain ⟨as, rr⟩ := Dp.readsAll I _ _ its hdp rv
    exact PySem.W.max_list_data (I.ok.hd cm) pl.isList (by simpa using rr) al hu fun i v h' tk bs hv rd hk => best_end I fg rv ra hs (maxD_mem d ds) hv rd hk q
  · obtain ⟨its, rv, pl, _⟩ := I.tuple (seqT_inj ha)
    obtain ⟨as, rr⟩ := Dp.readsAll I _ _ its hdp rv
    exact PySem.W.max_tuple_data (I.ok.hd cm) pl (by simpa using rr) al hu fun i v h' tk bs hv rd hk => best_end I fg rv ra hs (maxD_mem d ds) hv rd hk q
theorem seq_node {F H : Hp} {x : V} {a : PyData} {ds : List PyData} (fg : Same F H) (s : Sh K F H x a) (h : itemsD a = some ds) : ∃ p vs, x = .ref p ∧ (H p = some (.lst vs) ∨ H p = some (.tup vs)) ∧ RpAll K F vs ds := by
  rcases items_of (F := F) (H := H) (v := x) h with rfl | rfl
  · obtain ⟨p, vs, rfl, hp, r⟩ := s.list fg
    exact ⟨p, vs, rfl, .inl hp, r⟩
  · obtain ⟨p, vs, rfl, hp, r⟩ := s.tuple
    exact ⟨p, vs, rfl, .inr (fg _ _ hp), r⟩
theorem bi_min {k : Nat} (hc : Calm X k) (cm : X.calm = true) (hm : X.mg "min" = none) : BiOk X "min" dMin := ⟨.inl ⟨"min", _, ((call_min2 cm).or (cr_minD hc cm)).or (cr_min2D hc cm), (fun F H xs as d Q fg sa e q => by
  unfold dMin at e
  split at e
  · cases e
    obtain ⟨x, y, rfl, s1, s2⟩ := sh2 sa
    exact .inl (.inl ⟨_, _, by rw [s1.int, s2.int], q.here fg (.int _)⟩)
  · rename_i a
    obtain ⟨x, rfl, s⟩ := sh1 sa
    obtain ⟨ds, h1, h2⟩ := Option.bind_eq_some_iff.mp e
    obtain ⟨p, vs, rfl, hp, r⟩ := seq_node fg s h1
    unfold minL at h2
    split at h2
    · split at h2
      · rename_i hb
        cases h2
        exact .inl (.inr ⟨p, vs, _, _, F, rfl, hp, fg, r, hb, fun v rv => q.here fg rv⟩)
      · cases h2
    · cases h2
  · unfold minL at e
    split at e
    · rename_i xs ys _ x zs heq
      cases heq
      split at e
      · rename_i hb
        cases e
        obtain ⟨x, y, rfl, s1, s2⟩ := sh2 sa
        obtain ⟨a, us, rfl, ha, r1⟩ := s1.tuple
        obtain ⟨b, vs, rfl, hb2, r2⟩ := s2.tuple
        exact .inr ⟨_, _, F, fg, .cons (.tup ha r1) (.cons (.tup hb2 r2) .nil), hb, fun v rv => q.here fg rv⟩
      · cases e
    · cases e
  · cases e), hm, by decide +kernel⟩⟩
theorem bi_max {k : Nat} (hc : Calm X k) (cm : X.calm = true) (hm : X.mg "max" = none) : BiOk X "max" dMax := ⟨.inl ⟨"max", _, (call_max2 cm).or (cr_maxD hc cm), (fun F H xs as d Q fg sa e q => by
  unfold dMax at e
  split at e
  · cases e
    obtain ⟨x, y, rfl, s1, s2⟩ := sh2 sa
    exact .inl ⟨_, _, by rw [s1.int, s2.int], q.here fg (.int _)⟩
  · rename_i a
    obtain ⟨x, rfl, s⟩ := sh1 sa
    obtain ⟨ds, h1, h2⟩ := Option.bind_eq_some_iff.mp e
    obtain ⟨p, vs, rfl, hp, r⟩ := seq_node fg s h1
    unfold maxL at h2
    split at h2
    · split at h2
      · rename_i hb
        cases h2
        exact .inr ⟨p, vs, _, _, F, rfl, hp, fg, r, hb, fun v rv => q.here fg rv⟩
      · cases h2
    · cases h2
  · cases e), hm, by decide +kernel⟩⟩

/-! ## sum, any, all of lists -/
def intsD : List PyData → Option (List Int)
  | [] => some []
  | .int i :: ds => (intsD ds).map (i :: ·)
  | _ => none
theorem intsD_inv {F : Hp} : ∀ {ds : List PyData} {ns : List Int} {vs : List V}, intsD ds = some ns → RpAll K F vs ds → vs = ns.map V.int
  | [], ns, vs, h, r => by cases h; cases r; rfl
  | d :: ds, ns, vs, h, r => by
    unfold intsD at h
    split at h
    · rename_i z; cases z
    · rename_i i ds' e
      cases e
      obtain ⟨ms, h1, h2⟩ := Option.map_eq_some_iff.mp h
      subst h2
      cases r with
      | cons a b => cases a; rw [intsD_inv h1 b]; rfl
    · cases h
def boolsD : List PyData → Option (List Bool)
  | [] => some []
  | .bool i :: ds => (boolsD ds).map (i :: ·)
  | _ => none
theorem boolsD_inv {F : Hp} : ∀ {ds : List PyData} {ns : List Bool} {vs : List V}, boolsD ds = some ns → RpAll K F vs ds → vs = ns.map V.bl
  | [], ns, vs, h, r => by cases h; cases r; rfl
  | d :: ds, ns, vs, h, r => by
    unfold boolsD at h
    split at h
    · rename_i z; cases z
    · rename_i i ds' e
      cases e
      obtain ⟨ms, h1, h2⟩ := Option.map_eq_some_iff.mp h
      subst h2
      cases r with
      | cons a b => cases a; rw [boolsD_inv h1 b]; rfl
    · cases h
def dSum : List PyData → Option PyData
  | [.list ds] => (intsD ds).map fun ns => .int ns.sum
  | _ => none
theorem bi_sum (cm : X.calm = true) (hm : X.mg "sum" = none) : BiOk X "sum" dSum := ⟨.inl ⟨"sum", _, cr_sum cm, (fun F H xs as d Q fg sa e q => by
  unfold dSum at e
  split at e
  · obtain ⟨ns, h1, h2⟩ := Option.map_eq_some_iff.mp e
    cases h2
    obtain ⟨x, rfl, s⟩ := sh1 sa
    obtain ⟨a, vs, rfl, ha, r⟩ := s.list fg
    have ev := intsD_inv h1 r
    subst ev
    exact ⟨a, ns, rfl, seqL_inj ha, q.here fg (.int _)⟩
  · cases e), hm, by decide +kernel⟩⟩
def dAny : List PyData → Option PyData
  | [.list ds] => (boolsD ds).map fun ns => .bool (ns.any id)
  | _ => none
def dAll : List PyData → Option PyData
  | [.list ds] => (boolsD ds).map fun ns => .bool (ns.all id)
  | _ => none
theorem bi_any (cm : X.calm = true) (hm : X.mg "any" = none) : BiOk X "any" dAny := ⟨.inl ⟨"any", _, cr_any cm, (fun F H xs as d Q fg sa e q => by
  unfold dAny at e
  split at e
  · obtain ⟨ns, h1, h2⟩ := Option.map_eq_some_iff.mp e
    cases h2
    obtain ⟨x, rfl, s⟩ := sh1 sa
    obtain ⟨a, vs, rfl, ha, r⟩ := s.list fg
    have ev := boolsD_inv h1 r
    subst ev
    exact ⟨a, ns, rfl, seqL_inj ha, q.here fg (.bl _)⟩
  · cases e), hm, by decide +kernel⟩⟩
theorem bi_all (cm : X.calm = true) (hm : X.mg "all" = none) : BiOk X "all" dAll := ⟨.inl ⟨"all", _, cr_all cm, (fun F H xs as d Q fg sa e q => by
  unfold dAll at e
  split at e
  · obtain ⟨ns, h1, h2⟩ := Option.map_eq_some_iff.mp e
    cases h2
    obtain ⟨x, rfl, s⟩ := sh1 sa
    obtain ⟨a, vs, rfl, ha, r⟩ := s.list fg
    have ev := boolsD_inv h1 r
    subst ev
    exact ⟨a, ns, rfl, seqL_inj ha, q.here fg (.bl _)⟩
  · cases e), hm, by decide +kernel⟩⟩

/-! ## tuple(..), list(..), sorted(..) -/
def dTuple : List PyData → Option PyData
  | [.list ds] => some (.tuple ds)
  | [.tuple ds] => some (.tuple ds)
  | _ => none
theorem bi_tuple (hm : X.mg "tuple" = none) : BiOk X "tuple" dTuple := ⟨.inr (.inl ⟨"tuple", _, call_tuple_of, (fun F H xs as d Q fg sa e q => by
  unfold dTuple at e
  split at e
  · cases e
    obtain ⟨x, rfl, s⟩ := sh1 sa
    obtain ⟨a, vs, rfl, ha, r⟩ := s.list fg
    exact ⟨a, vs, rfl, .inl ⟨seqL_inj ha, Out.tup q fg r⟩⟩
  · cases e
    obtain ⟨x, rfl, s⟩ := sh1 sa
    obtain ⟨a, vs, rfl, ha, r⟩ := s.tuple
    exact ⟨a, vs, rfl, .inr ⟨seqT_inj (fg _ _ ha), q.here fg (.tup ha r)⟩⟩
  · cases e), hm, by decide +kernel⟩)⟩
def keysD : List (PyData × PyData) → List PyData := fun kvs => kvs.map (·.1)
def intKeys : List (PyData × PyData) → Bool := fun kvs => kvs.all fun p => match p.1 with | .int _ => true | .str _ => true | _ => false
def dList : List PyData → Option PyData
  | [.list ds] => some (.list ds)
  | [.tuple ds] => some (.list ds)
  | _ => none
theorem bn_list (hm : X.mg "list" = none) : BnOk X "list" dList := ⟨.inr ⟨"list", _, call_list_of, (fun F H xs as d Q fg sa e q => by
  unfold dList at e
  split at e
  · cases e
    obtain ⟨x, rfl, s⟩ := sh1 sa
    obtain ⟨a, vs, rfl, ha, r⟩ := s.list fg
    exact ⟨a, vs, rfl, .inl (seqL_inj ha), OutN.lst q r⟩
  · cases e
    obtain ⟨x, rfl, s⟩ := sh1 sa
    obtain ⟨a, vs, rfl, ha, r⟩ := s.tuple
    exact ⟨a, vs, rfl, .inr (seqT_inj (fg _ _ ha)), OutN.lst q r⟩
  · cases e), hm, by decide +kernel⟩⟩
/-- can be sorted -/
def sortOk (ds : List PyData) : Bool := (ds.all fun d => ds.all fun d' => PySem.W.alike d d') && ds.all SeqAt.shaped && decide (ds.length ≤ sizeLine) &&
  ((ds.all fun d => match d with | .tuple (_ :: _) => true | _ => false) || ds.all fun d => match d with | .none => false | .tuple _ => false | _ => true)
theorem sortOk_inv {ds : List PyData} (h : sortOk ds = true) : PySem.W.AllAlike ds ∧ (∀ d ∈ ds, SeqAt.shaped d = true) ∧ ds.length ≤ sizeLine ∧ PySem.W.Sortable ds := by
  unfold sortOk at h
  rw [Bool.and_eq_true, Bool.and_eq_true, Bool.and_eq_true, Bool.or_eq_true] at h
  obtain ⟨⟨⟨h1, h2⟩, h3⟩, h4⟩ := h
  rw [List.all_eq_true] at h1 h2
  refine ⟨fun d hd d' hd' => List.all_eq_true.mp (h1 d hd) d' hd', h2, of_decide_eq_true h3, ?_⟩
  rcases h4 with h4 | h4
  · refine .inl fun d hd => ?_
    have := List.all_eq_true.mp h4 d hd
    split at this
    · exact ⟨_, _, rfl⟩
    · cases this
  · refine .inr fun d hd => ?_
    have := List.all_eq_true.mp h4 d hd
    constructor
    · rintro rfl; cases this
    · rintro xs rfl; cases this
theorem sort_out {F : Hp} {pins : List (Addr × Obj)} {σ : L2.St} {s : Shared} : True := trivial
def rSortD (K : PySem.W.Frag) : List V → Hp → VK → Prop := fun xs H Q => ∃ a vs ds F, xs = [.ref a] ∧ (H a = some (.lst vs) ∨ H a = some (.tup vs)) ∧ Same F H ∧ RpAll K F vs ds ∧ sortOk ds = true ∧
  ∀ ys p, H p = none → RpAll K F ys (sortD ds) → Q (.ref p) (upd H p (.lst ys))
theorem each_vals {F : Hp} : ∀ {vs : List V} {its : List Value} {ds : List PyData}, Vals vs its → RpAll K F vs ds → PySem.W.EachIs (fun v d => ∃ x, RelV x v ∧ Rp K F x d) its ds
  | [], _, _, .nil, r => by cases r; exact .nil
  | v :: vs, _, _, .cons a b, r => by cases r with | cons x y => exact .cons ⟨v, a, x⟩ (each_vals b y)
theorem vals_each {F : Hp} : ∀ {its : List Value} {ds : List PyData}, PySem.W.EachIs (fun v d => ∃ x, RelV x v ∧ Rp K F x d) its ds → ∃ vs, Vals vs its ∧ RpAll K F vs ds
  | _, _, .nil => ⟨[], .nil, .nil⟩
  | _, _, .cons ⟨x, a, b⟩ t => by
    obtain ⟨vs, h1, h2⟩ := vals_each t
    exact ⟨x :: vs, .cons a h1, .cons b h2⟩
theorem each_reads {h : Heap} : ∀ {its : List Value} {ds : List PyData} {as : List Addr}, (∀ d ∈ ds, SeqAt.shaped d = true) → ReadsAll h its ds as → PySem.W.EachIs (fun v d => ∃ as, Reads h v d as ∧ ∀ b ∈ as, ∃ o, h.get? b = some o) its ds
  | _, [], _, _, r => by cases r; exact .nil
  | _, d :: ds, _, hs, r => by
    cases r with
    | cons a b => exact .cons ⟨_, a, reads_there (SeqAt.canLay_of_shaped (hs d List.mem_cons_self)) a⟩ (each_reads (fun e he => hs e (List.mem_cons_of_mem _ he)) b)
theorem isort_length {α : Type} {le : α → α → Bool} : ∀ l : List α, (isort le l).length = l.length
  | [] => rfl
  | x :: xs => by
    have hi : ∀ l : List α, (ins le x l).length = l.length + 1 := fun l => by
      induction l with
      | nil => rfl
      | cons y ys ih => unfold ins; split <;> simp [ih]
    show (ins le x (isort le xs)).length = _
    rw [hi, isort_length xs]; rfl
theorem cr_sortD {k : Nat} (hc : Calm X k) : CallR X (.builtin "sorted") (rSortD X.K) := by
  intro pins s σ H xs us Q I r ⟨a, vs, ds, F, ex, ha, fg, ra, hb, q⟩
  subst ex
  obtain ⟨u, rfl, ru⟩ := vals1 r
  cases ru
  obtain ⟨al, hs, hl, hk⟩ := sortOk_inv hb
  have hdp := dpAll_of fg ra hs
  have hu : ∀ d, d ∈ ds → X.A.units + 2 + d.depth < cLine := fun d hd => by
    have h1 := SeqAt.depth_of_shaped (hs d hd)
    have := hc.room.un
    omega
  have fin : ∀ (its : List Value), Vals vs its → (∀ S : List Value → Shared → Prop, (∀ (h' : Heap) (tk : Nat), (∀ b o, s.heap.get? b = some o → h'.get? b = some o) → S its { s with heap := h', toks := tk }) → wpAny (model X.prog X.w) X.A.in1 (collect (.ref a)) S X.xe s) →
      wpAny (model X.prog X.w) X.A (call (.builtin "sorted") [.ref a]) (EP X pins σ Q) X.xe s := fun its rv hcol => by
    obtain ⟨as, rr⟩ := Dp.readsAll I _ _ its hdp rv
    refine sorted_from (R := fun v d => ∃ x, RelV x v ∧ Rp X.K F x d) hcol (each_vals rv ra) (each_reads hs rr) al hk hl hu fun out h1 h2 tk ho eo k1 ⟨n, hat⟩ k2 => ?_
    rw [sortD_eq] at eo
    obtain ⟨ys, rvs, rys⟩ := vals_each eo
    have I1 : Inv X pins σ H { s with heap := h1, toks := tk } := I.kept k1
    have hlen : ys.length ≤ sizeLine := by rw [rys.length, sortD, isort_length]; exact hl
    refine ⟨.ref h1.objs.size, upd H h1.objs.size (.lst ys), I1.laid (h' := h2) (t' := tk) k2 (Nat.le_refl _) ⟨hlen, out, n, rvs, hat⟩, rfl, q ys _ (I1.hok.fresh (Nat.le_refl _)) rys⟩
  rcases ha with ha | ha
  · obtain ⟨its, rv, ⟨o, n, e1, e2, e3, e4⟩, hz⟩ := I.list (seqL_inj ha)
    exact fin its rv fun S hS => wpAny_collect_seq a (.inl rfl) e1 e2 e4 (fun h' k => hS h' s.toks k) (by rw [List.size_toArray, ← rv.length]; exact hz)
  · obtain ⟨its, rv, ⟨o, e1, e2, n, e4⟩, hz⟩ := I.tuple (seqT_inj ha)
    exact fin its rv fun S hS => wpAny_collect_seq a (.inr rfl) e1 e2 e4 (fun h' k => hS h' s.toks k) (by rw [List.size_toArray, ← rv.length]; exact hz)
def dSorted : List PyData → Option PyData
  | [a] => (itemsD a).bind fun ds => if sortOk ds = true then some (.list (sortD ds)) else none
  | _ => none
theorem bn_sorted {k : Nat} (hc : Calm X k) (hm : X.mg "sorted" = none) : BnOk X "sorted" dSorted := ⟨.inl ⟨"sorted", _, cr_sortD hc, (fun F H xs as d Q fg sa e q => by
  unfold dSorted at e
  split at e
  · obtain ⟨ds, h1, h2⟩ := Option.bind_eq_some_iff.mp e
    obtain ⟨x, rfl, s⟩ := sh1 sa
    split at h2
    · rename_i hb
      cases h2
      obtain ⟨p, vs, rfl, hp, r⟩ := seq_node fg s h1
      exact ⟨p, vs, ds, F, rfl, hp, fg, r, hb, fun ys p n ry => OutN.lst q ry p n⟩
    · cases h2
  · cases e), hm, by decide +kernel⟩⟩
end
end DL

set_option Elab.async false
set_option linter.all false
set_option maxRecDepth 100000
namespace DL
open PySem PySem.Spec PyProof.Rows L2

/-! ## repr -/
mutual
/-- at most so many signs -/
def cost : PyData → Nat
  | .none => 4
  | .bool _ => 5
  | .int _ => 600
  | .str x => (reprText x).length
  | .list xs => costs xs + 4
  | .tuple xs => costs xs + 4
  | .dict _ => 0
def costs : List PyData → Nat
  | [] => 0
  | d :: ds => cost d + 2 + costs ds
end
theorem int_shown {i : Int} (h : i.natAbs.log2 < 1920) : (Str.ofString (toString i)).length ≤ 600 := by
  have big : i.natAbs < 10 ^ 578 := by
    by_cases z : i.natAbs = 0
    · rw [z]; exact Nat.pow_pos (by decide)
    · have h1 : i.natAbs < 2 ^ (i.natAbs.log2 + 1) := Nat.lt_log2_self
      have h2 : 2 ^ (i.natAbs.log2 + 1) ≤ 2 ^ 1920 := Nat.pow_le_pow_right (by decide) (by omega)
      have h3 : 2 ^ 1920 < 10 ^ 578 := by decide +kernel
      omega
  cases i with
  | ofNat n =>
    have b2 : (Int.ofNat n) < 10 ^ 578 := by
      have : n < 10 ^ 578 := big
      have : (n : Int) < ((10 ^ 578 : Nat) : Int) := Int.ofNat_lt.mpr this
      rw [Int.natCast_pow] at this
      exact this
    have := toString_length_le (v := (Int.ofNat n)) (Int.natCast_nonneg n) (k := 578) (by decide) b2
    omega
  | negSucc n =>
    have b2 : ((n + 1 : Nat) : Int) < 10 ^ 578 := by
      have : n + 1 < 10 ^ 578 := big
      have : ((n + 1 : Nat) : Int) < ((10 ^ 578 : Nat) : Int) := Int.ofNat_lt.mpr this
      rw [Int.natCast_pow] at this
      exact this
    have h1 := toString_length_le (v := ((n + 1 : Nat) : Int)) (Int.natCast_nonneg _) (k := 578) (by decide) b2
    have e : toString (Int.negSucc n) = "-" ++ toString (n + 1) := rfl
    have e2 : toString ((n + 1 : Nat) : Int) = toString (n + 1) := rfl
    rw [e2] at h1
    rw [e]
    have e3 : (Str.ofString ("-" ++ toString (n + 1))).length = (Str.ofString (toString (n + 1))).length + 1 := by
      rw [Str.ofString_eq_toList, Str.ofString_eq_toList, String.toList_append]
      show (List.toArray _).size = (List.toArray _).size + 1
      simp
    omega
theorem piled_le : ∀ {ts : List Str} {n : Nat}, piled ts ≤ n → (listText ts).length ≤ n + 4 ∧ (tupleText ts).length ≤ n + 4 := fun {ts n} h => by
  have t2 : ∀ x y : Str, (x ++ y).length = x.length + y.length := fun x y => strLen_append x y
  constructor
  · cases ts with
    | nil => show (listText []).length ≤ _; have : (listText []).length = 2 := rfl; omega
    | cons x r =>
      have hp : ∀ (ts : List Str) (k : Nat) (acc : Str), (textFrom k acc ts).length ≤ acc.length + piled ts := by
        intro ts
        induction ts with
        | nil => intro k acc; exact Nat.le_add_right _ _
        | cons t r ih =>
          intro k acc
          show (textFrom (k + 1) (acc ++ (if k > 0 then ", " else "" : String) ++ t) r).length ≤ _
          have := ih (k + 1) (acc ++ (if k > 0 then ", " else "" : String) ++ t)
          rw [t2, t2] at this
          rw [piled_cons]
          have hz : (Str.ofString (if k > 0 then ", " else "" : String)).length ≤ 2 := by split <;> decide
          omega
      have := hp (x :: r) 0 "["
      unfold listText
      rw [t2]
      have e1 : (Str.ofString "[").length = 1 := rfl
      have e2 : (Str.ofString "]").length = 1 := rfl
      omega
  · unfold tupleText
    rw [t2, t2]
    have e1 : (Str.ofString "(").length = 1 := rfl
    have hz : (Str.ofString (if ts.length == 1 then ",)" else ")" : String)).length ≤ 2 := by split <;> decide
    cases ts with
    | nil =>
      have : (Str.join ", " []).length = 0 := rfl
      omega
    | cons x r =>
      have := join_length_add (x :: r) (by simp)
      omega
mutual
theorem shown_cost : ∀ {d : PyData}, d.showable = true → d.canLay0 = true → d.shown.length ≤ cost d
  | .none, _, _ => by show (Str.ofString "None").length ≤ 4; decide
  | .bool b, _, _ => by cases b <;> (unfold PyData.shown cost; decide)
  | .int i, h, _ => by
    unfold PyData.showable at h
    unfold PyData.shown cost
    exact int_shown (of_decide_eq_true h)
  | .str x, _, _ => by unfold PyData.shown cost; exact Nat.le_refl _
  | .list xs, h, h2 => by
    unfold PyData.showable at h
    unfold PyData.canLay0 at h2
    unfold PyData.shown cost
    exact (piled_le (shown_costs h h2)).1
  | .tuple xs, h, h2 => by
    unfold PyData.showable at h
    unfold PyData.canLay0 at h2
    unfold PyData.shown cost
    exact (piled_le (shown_costs h h2)).2
  | .dict _, _, h2 => by unfold PyData.canLay0 at h2; cases h2
theorem shown_costs : ∀ {ds : List PyData}, PyData.showableAll ds = true → PyData.canLayAll0 ds = true → piled (PyData.shownAll ds) ≤ costs ds
  | [], _, _ => Nat.zero_le _
  | d :: ds, h, h2 => by
    unfold PyData.showableAll at h
    unfold PyData.canLayAll0 at h2
    rw [Bool.and_eq_true] at h h2
    unfold PyData.shownAll costs
    rw [piled_cons]
    have a := shown_cost h.1 h2.1
    have b := shown_costs h.2 h2.2
    omega
end
mutual
theorem noDict_lay : ∀ {d : PyData}, d.canLay0 = true → d.hasDict = false
  | .none, _ => rfl
  | .bool _, _ => rfl
  | .int _, _ => rfl
  | .str _, _ => rfl
  | .list xs, h => by unfold PyData.canLay0 at h; unfold PyData.hasDict; exact noDicts_lay h
  | .tuple xs, h => by unfold PyData.canLay0 at h; unfold PyData.hasDict; exact noDicts_lay h
  | .dict _, h => by unfold PyData.canLay0 at h; cases h
theorem noDicts_lay : ∀ {ds : List PyData}, PyData.canLayAll0 ds = true → PyData.hasDictAll ds = false
  | [], _ => rfl
  | d :: ds, h => by
    unfold PyData.canLayAll0 at h
    rw [Bool.and_eq_true] at h
    unfold PyData.hasDictAll
    rw [noDict_lay h.1, noDicts_lay h.2]; rfl
end
section
variable {X : Cx} {K : PySem.W.Frag}
def reprOk (d : PyData) : Bool := d.showable && SeqAt.shaped d && decide (cost d ≤ 16777216)
def rReprD (K : PySem.W.Frag) : List V → Hp → VK → Prop := fun xs H Q => ∃ x d, xs = [x] ∧ Dp K H x d ∧ reprOk d = true ∧ Q (.str d.shown) H
theorem cr_repr {k : Nat} (hc : Calm X k) : CallR X (.builtin "repr") (rReprD X.K) := by
  intro pins s σ H xs us Q I r ⟨x, d, ex, hd, ok, q⟩
  subst ex
  obtain ⟨u, rfl, ru⟩ := vals1 r
  unfold reprOk at ok
  rw [Bool.and_eq_true, Bool.and_eq_true] at ok
  obtain ⟨⟨sh, sd⟩, hz⟩ := ok
  have lay := SeqAt.canLay_of_shaped sd
  have len : d.shown.length ≤ sizeLine := Nat.le_trans (shown_cost sh lay) (by rw [sizeLine_eq]; exact of_decide_eq_true hz)
  obtain ⟨as, rr⟩ := Dp.reads I d x u hd ru
  have hu : X.A.units + (d.depth + 1) < cLine := by
    have := SeqAt.depth_of_shaped sd
    have := hc.room.un
    omega
  have nd := noDict_lay lay
  cases hd with
  | non => cases ru; exact PySem.P.repr_of_none ⟨.str _, H, I.tok _, ⟨_, rfl⟩, q⟩
  | bl b => cases ru; exact PySem.P.repr_of_bool ⟨.str _, H, I.tok _, ⟨_, rfl⟩, by cases b <;> exact q⟩
  | int i =>
    obtain ⟨t, rfl⟩ := ru
    exact PySem.P.repr_of_int (of_decide_eq_true (by unfold PyData.showable at sh; exact sh)) ⟨.str _, H, I.tok _, ⟨_, rfl⟩, q⟩
  | str z =>
    obtain ⟨t, rfl⟩ := ru
    exact PySem.P.repr_of_str ⟨.str _, H, I.tok _, ⟨_, rfl⟩, q⟩ len
  | lst h1 h2 =>
    cases ru
    exact repr_of_reads' rr sh (fun z => by rw [nd] at z; cases z) hc.gd hu (fun _ _ z => z) (fun h' u tk k => ⟨.str _, H, I.kept k, ⟨_, rfl⟩, q⟩) len
  | tup h1 h2 =>
    cases ru
    exact repr_of_reads' rr sh (fun z => by rw [nd] at z; cases z) hc.gd hu (fun _ _ z => z) (fun h' u tk k => ⟨.str _, H, I.kept k, ⟨_, rfl⟩, q⟩) len
def dRepr : List PyData → Option PyData
  | [d] => if reprOk d = true then some (.str d.shown) else none
  | _ => none
theorem bi_repr {k : Nat} (hc : Calm X k) (hm : X.mg "repr" = none) : BiOk X "repr" dRepr := ⟨.inl ⟨"repr", _, cr_repr hc, (fun F H xs as d Q fg sa e q => by
  unfold dRepr at e
  split at e
  · split at e
    · rename_i a ok
      cases e
      obtain ⟨x, rfl, s⟩ := sh1 sa
      have ok' := ok
      unfold reprOk at ok'
      rw [Bool.and_eq_true, Bool.and_eq_true] at ok'
      exact ⟨x, a, rfl, s.dp fg ok'.1.2, ok, q.here fg (.str _)⟩
    · cases e
  · cases e), hm, by decide +kernel⟩⟩
end
end DL

set_option Elab.async false
set_option linter.all false
set_option maxRecDepth 100000
namespace DL
open PySem PySem.Spec PyProof.Rows L2

/-! ## isinstance -/
def tyD : PyData → String
  | .none => "NoneType"
  | .bool _ => "bool"
  | .int _ => "int"
  | .str _ => "str"
  | .list _ => "list"
  | .tuple _ => "tuple"
  | .dict _ => "dict"
def isTs (T s : String) : Bool := s == T || (s == "bool" && T == "int")
def isT (T : String) (d : PyData) : Bool := isTs T (tyD d)
def dIsi (T : String) : PyData → Option PyData := fun d => some (.bool (isT T d))
section
variable {X : Cx} {K : PySem.W.Frag}
theorem tyX_of {F H : Hp} {v : V} {d : PyData} (fg : Same F H) (s : Sh K F H v d) : TyX K H v (.type (tyD d)) := by
  have r := s.rp fg
  cases r with
  | non => exact .base .non
  | bl b => exact .base (.bl b)
  | int i => exact .base (.int i)
  | str x => exact .base (.str x)
  | lst h _ => exact .base (.lst h)
  | tup h _ => exact .base (.tup h)
  | dK h _ => exact .base (.dK h)
  | dT h _ => exact .base (.dT h)
theorem kit_all : ∀ d : PyData, kitB (tyD d) "int" = some (isT "int" d) ∧ kitB (tyD d) "bool" = some (isT "bool" d) ∧ kitB (tyD d) "str" = some (isT "str" d) ∧ kitB (tyD d) "tuple" = some (isT "tuple" d) ∧ kitB (tyD d) "list" = some (isT "list" d)
  | .none => ⟨show kitB "NoneType" "int" = some (isTs "int" "NoneType") by decide +kernel, show kitB "NoneType" "bool" = some (isTs "bool" "NoneType") by decide +kernel, show kitB "NoneType" "str" = some (isTs "str" "NoneType") by decide +kernel, show kitB "NoneType" "tuple" = some (isTs "tuple" "NoneType") by decide +kernel, show kitB "NoneType" "list" = some (isTs "list" "NoneType") by decide +kernel⟩
  | .bool _ => ⟨show kitB "bool" "int" = some (isTs "int" "bool") by decide +kernel, show kitB "bool" "bool" = some (isTs "bool" "bool") by decide +kernel, show kitB "bool" "str" = some (isTs "str" "bool") by decide +kernel, show kitB "bool" "tuple" = some (isTs "tuple" "bool") by decide +kernel, show kitB "bool" "list" = some (isTs "list" "bool") by decide +kernel⟩
  | .int _ => ⟨show kitB "int" "int" = some (isTs "int" "int") by decide +kernel, show kitB "int" "bool" = some (isTs "bool" "int") by decide +kernel, show kitB "int" "str" = some (isTs "str" "int") by decide +kernel, show kitB "int" "tuple" = some (isTs "tuple" "int") by decide +kernel, show kitB "int" "list" = some (isTs "list" "int") by decide +kernel⟩
  | .str _ => ⟨show kitB "str" "int" = some (isTs "int" "str") by decide +kernel, show kitB "str" "bool" = some (isTs "bool" "str") by decide +kernel, show kitB "str" "str" = some (isTs "str" "str") by decide +kernel, show kitB "str" "tuple" = some (isTs "tuple" "str") by decide +kernel, show kitB "str" "list" = some (isTs "list" "str") by decide +kernel⟩
  | .list _ => ⟨show kitB "list" "int" = some (isTs "int" "list") by decide +kernel, show kitB "list" "bool" = some (isTs "bool" "list") by decide +kernel, show kitB "list" "str" = some (isTs "str" "list") by decide +kernel, show kitB "list" "tuple" = some (isTs "tuple" "list") by decide +kernel, show kitB "list" "list" = some (isTs "list" "list") by decide +kernel⟩
  | .tuple _ => ⟨show kitB "tuple" "int" = some (isTs "int" "tuple") by decide +kernel, show kitB "tuple" "bool" = some (isTs "bool" "tuple") by decide +kernel, show kitB "tuple" "str" = some (isTs "str" "tuple") by decide +kernel, show kitB "tuple" "tuple" = some (isTs "tuple" "tuple") by decide +kernel, show kitB "tuple" "list" = some (isTs "list" "tuple") by decide +kernel⟩
  | .dict _ => ⟨show kitB "dict" "int" = some (isTs "int" "dict") by decide +kernel, show kitB "dict" "bool" = some (isTs "bool" "dict") by decide +kernel, show kitB "dict" "str" = some (isTs "str" "dict") by decide +kernel, show kitB "dict" "tuple" = some (isTs "tuple" "dict") by decide +kernel, show kitB "dict" "list" = some (isTs "list" "dict") by decide +kernel⟩
theorem pv_isi {c : Cfg} {a : Expr} {fa : Den c.I.S} {x : Str} {p q pos : Pos} (T : String) (hT : ∀ d, kitB (tyD d) T = some (isT T d)) (hm : X.mg "isinstance" = none) (hg : Gl X "isinstance") (hg2 : Gl X x) (hm2 : X.mg x = none) (hv : bootBuiltins x = some (.type T)) (ha : PP X c a fa)
    (hn : x ≠ "__name__" := by decide) (hdb : (x == ("__debug__" : Str)) = false := by decide)
    (he : starEach [a, .Name x q] X.env = (false, eval a X.env) :: starEach [.Name x q] X.env := by rfl) (hpl : (backTo pos (starEach [.Name x q] X.env)).any (·.1) = false := by rfl) :
    PV X c (.Call (.Name "isinstance" p) [a, .Name x q] [] pos) (dUn (dIsi T) fa) :=
  (pe_callB call_isi hg hm (by decide +kernel) (pa_cons ha (pa_cons (pe_bltn (v := .ty T) hg2 hm2 hv rfl hn hdb) pa_nil) he) (by decide) (by decide) he hpl).imp fun σ H Q ⟨F0, G0, F, env, st, d, st', R, hf, q⟩ => by
    unfold dUn at hf
    obtain ⟨⟨z, s1⟩, h1, hf1⟩ := Option.bind_eq_some_iff.mp hf
    obtain ⟨d', h2, hf2⟩ := Option.map_eq_some_iff.mp hf1
    cases hf2
    cases h2
    refine ⟨F0, G0, F, env, st, z, _, R, h1, fun F' H' v x1 ok sv => ?_⟩
    have R1 := R.step x1 ok
    exact ⟨v, .ty T, _, _, _, rfl, .ty T, tyX_of R1.fh sv.whole, kit_ty (hT z), q F' H' _ x1 ok (.bl _)⟩
end

/-! ## keys -/
mutual
def keyEq : PyData → PyData → Bool
  | .int i, .int j => decide (i = j)
  | .str x, .str y => decide (x = y)
  | .tuple xs, .tuple ys => keyEqs xs ys
  | _, _ => false
def keyEqs : List PyData → List PyData → Bool
  | [], [] => true
  | x :: xs, y :: ys => keyEq x y && keyEqs xs ys
  | _, _ => false
end
theorem keyEq_k (k j : Key) : keyEq (kD k) (kD j) = decide (k = j) := by
  cases k <;> cases j <;> simp [kD, keyEq]
theorem keyEqs_k : ∀ ks js : List Key, keyEqs (ks.map kD) (js.map kD) = decide (ks = js)
  | [], [] => by simp [keyEqs]
  | [], _ :: _ => by simp [keyEqs]
  | _ :: _, [] => by simp [keyEqs]
  | k :: ks, j :: js => by
    rw [List.map_cons, List.map_cons, keyEqs, keyEq_k, keyEqs_k]
    by_cases h : k = j <;> by_cases h2 : ks = js <;> simp [h, h2]
theorem keyEq_t (ks js : List Key) : keyEq (.tuple (ks.map kD)) (.tuple (js.map kD)) = decide (ks = js) := by
  rw [keyEq]; exact keyEqs_k ks js
/-- the entries of a dict, by the kind of its keys -/
def asDict : PyData → Option (Bool × List (PyData × PyData))
  | .dict ((.list [], .none) :: ds) => some (true, ds)
  | .dict ds => some (false, ds)
  | _ => none
def mkDict : Bool → List (PyData × PyData) → PyData
  | true, ds => .dict (tagT :: ds)
  | false, ds => .dict ds
def toK : PyData → Option Key
  | .int i => some (.inl i)
  | .str x => some (.inr x)
  | _ => none
def toKs : List PyData → Option (List Key)
  | [] => some []
  | d :: ds => (toK d).bind fun k => (toKs ds).map (k :: ·)
theorem toK_inv {d : PyData} {k : Key} (h : toK d = some k) : d = kD k := by
  unfold toK at h
  split at h <;> first | (cases h; rfl) | cases h
theorem toKs_inv : ∀ {ds : List PyData} {ks : List Key}, toKs ds = some ks → ds = ks.map kD
  | [], ks, h => by cases h; rfl
  | d :: ds, ks, h => by
    unfold toKs at h
    obtain ⟨k, h1, h⟩ := Option.bind_eq_some_iff.mp h
    obtain ⟨ks', h2, e⟩ := Option.map_eq_some_iff.mp h
    subst e
    rw [toK_inv h1, toKs_inv h2]; rfl
def keyOk : Bool → PyData → Bool
  | false, d => (toK d).isSome
  | true, .tuple ds => (toKs ds).isSome
  | true, _ => false
theorem keyOk_f {d : PyData} (h : keyOk false d = true) : ∃ k, d = kD k := by
  unfold keyOk at h
  obtain ⟨k, hk⟩ := Option.isSome_iff_exists.mp h
  exact ⟨k, toK_inv hk⟩
theorem keyOk_t {d : PyData} (h : keyOk true d = true) : ∃ ks : List Key, d = .tuple (ks.map kD) := by
  unfold keyOk at h
  split at h
  · rename_i e; cases e
  · rename_i ds _
    obtain ⟨k, hk⟩ := Option.isSome_iff_exists.mp h
    exact ⟨k, by rw [toKs_inv hk]⟩
  · cases h
def dget (ds : List (PyData × PyData)) (k : PyData) : Option PyData := (ds.find? fun p => keyEq p.1 k).map (·.2)
def dput (ds : List (PyData × PyData)) (k v : PyData) : List (PyData × PyData) :=
  if (ds.any fun p => keyEq p.1 k) = true then ds.map (fun p => if keyEq p.1 k = true then (p.1, v) else p) else ds ++ [(k, v)]
def ddel (ds : List (PyData × PyData)) (k : PyData) : List (PyData × PyData) := ds.filter fun p => !keyEq p.1 k
section
variable {K : PySem.W.Frag} {F : Hp}
theorem kv_get {kvs : List (Key × V)} {ds : List (PyData × PyData)} (r : RpKv K F kvs ds) (k : Key) : (∀ d, dget ds (kD k) = some d → ∃ v, valV kvs k = some v ∧ Rp K F v d) ∧ (dget ds (kD k) = none → valV kvs k = none) := by
  unfold dget valV
  induction kvs generalizing ds with
  | nil => cases r; exact ⟨fun d h => by simp at h, fun _ => rfl⟩
  | cons p ps ih =>
    cases r with
    | @cons j v _ d ds' a b =>
      rw [List.find?_cons, List.find?_cons, keyEq_k]
      by_cases e : j = k
      · subst e
        simp only [decide_true]
        exact ⟨fun d' h => by cases h; exact ⟨v, rfl, a⟩, fun h => by simp at h⟩
      · rw [decide_eq_false e]
        exact ih b
theorem tv_get {kvs : List (List Key × V)} {ds : List (PyData × PyData)} (r : RpTv K F kvs ds) (k : List Key) : (∀ d, dget ds (.tuple (k.map kD)) = some d → ∃ v, valV kvs k = some v ∧ Rp K F v d) ∧ (dget ds (.tuple (k.map kD)) = none → valV kvs k = none) := by
  unfold dget valV
  induction kvs generalizing ds with
  | nil => cases r; exact ⟨fun d h => by simp at h, fun _ => rfl⟩
  | cons p ps ih =>
    cases r with
    | @cons j v _ d ds' a b =>
      rw [List.find?_cons, List.find?_cons, keyEq_t]
      by_cases e : j = k
      · subst e
        simp only [decide_true]
        exact ⟨fun d' h => by cases h; exact ⟨v, rfl, a⟩, fun h => by simp at h⟩
      · rw [decide_eq_false e]
        exact ih b
theorem kv_any {kvs : List (Key × V)} {ds : List (PyData × PyData)} (r : RpKv K F kvs ds) (k : Key) : (ds.any fun p => keyEq p.1 (kD k)) = kvs.any fun p => decide (p.1 = k) := by
  induction kvs generalizing ds with
  | nil => cases r; rfl
  | cons p ps ih => cases r with | cons a b => rw [List.any_cons, List.any_cons, ih b, keyEq_k]
theorem tv_any {kvs : List (List Key × V)} {ds : List (PyData × PyData)} (r : RpTv K F kvs ds) (k : List Key) : (ds.any fun p => keyEq p.1 (.tuple (k.map kD))) = kvs.any fun p => decide (p.1 = k) := by
  induction kvs generalizing ds with
  | nil => cases r; rfl
  | cons p ps ih => cases r with | cons a b => rw [List.any_cons, List.any_cons, ih b, keyEq_t]
theorem kv_put {kvs : List (Key × V)} {ds : List (PyData × PyData)} (r : RpKv K F kvs ds) (k : Key) {v : V} {d : PyData} (q : Rp K F v d) : RpKv K F (putK kvs k v) (dput ds (kD k) d) := by
  unfold putK dput
  rw [kv_any r k]
  by_cases h : (kvs.any fun p => decide (p.1 = k)) = true
  · rw [if_pos h, if_pos h]
    clear h
    induction kvs generalizing ds with
    | nil => cases r; exact .nil
    | cons p ps ih =>
      cases r with
      | @cons j w _ e ds' a b =>
        rw [List.map_cons, List.map_cons, keyEq_k]
        by_cases ej : j = k
        · subst ej; simp only [decide_true, if_true]; exact .cons q (ih b)
        · rw [decide_eq_false ej, if_neg ej, if_neg (by decide)]; exact .cons a (ih b)
  · rw [if_neg h, if_neg h]
    clear h
    induction kvs generalizing ds with
    | nil => cases r; exact .cons q .nil
    | cons p ps ih => cases r with | cons a b => exact .cons a (ih b)
theorem tv_put {kvs : List (List Key × V)} {ds : List (PyData × PyData)} (r : RpTv K F kvs ds) (k : List Key) {v : V} {d : PyData} (q : Rp K F v d) : RpTv K F (putK kvs k v) (dput ds (.tuple (k.map kD)) d) := by
  unfold putK dput
  rw [tv_any r k]
  by_cases h : (kvs.any fun p => decide (p.1 = k)) = true
  · rw [if_pos h, if_pos h]
    clear h
    induction kvs generalizing ds with
    | nil => cases r; exact .nil
    | cons p ps ih =>
      cases r with
      | @cons j w _ e ds' a b =>
        rw [List.map_cons, List.map_cons, keyEq_t]
        by_cases ej : j = k
        · subst ej; simp only [decide_true, if_true]; exact .cons q (ih b)
        · rw [decide_eq_false ej, if_neg ej, if_neg (by decide)]; exact .cons a (ih b)
  · rw [if_neg h, if_neg h]
    clear h
    induction kvs generalizing ds with
    | nil => cases r; exact .cons q .nil
    | cons p ps ih => cases r with | cons a b => exact .cons a (ih b)
theorem asDict_inv {d : PyData} {t : Bool} {ds : List (PyData × PyData)} (h : asDict d = some (t, ds)) : d = mkDict t ds := by
  unfold asDict at h
  split at h
  · cases h; rfl
  · cases h; rfl
  · cases h
theorem dict_node {H : Hp} {v : V} {d : PyData} {t : Bool} {ds : List (PyData × PyData)} (fg : Same F H) (s : Sh K F H v d) (h : asDict d = some (t, ds)) :
    (t = false ∧ ∃ a kvs, v = .ref a ∧ H a = some (.dK kvs) ∧ RpKv K F kvs ds) ∨ (t = true ∧ ∃ a kvs, v = .ref a ∧ H a = some (.dT kvs) ∧ RpTv K F kvs ds) := by
  have e := asDict_inv h
  subst e
  cases t with
  | false =>
    rcases s.dict fg with ⟨a, kvs, rfl, ha, r⟩ | ⟨a, kvs, ds', rfl, ha, ed, r⟩
    · exact .inl ⟨rfl, a, kvs, rfl, ha, r⟩
    · subst ed
      cases h
  | true =>
    rcases s.dict fg with ⟨a, kvs, rfl, ha, r⟩ | ⟨a, kvs, ds', rfl, ha, ed, r⟩
    · exact (kv_notag r).elim
    · cases ed; exact .inr ⟨rfl, a, kvs, rfl, ha, r⟩
/-- what stands under a key -/
theorem dget_of {H : Hp} {v y : V} {d k : PyData} {t : Bool} {ds : List (PyData × PyData)} (fg : Same F H) (s : Sh K F H v d) (h : asDict d = some (t, ds)) (sk : Sh K F H y k) (hk : keyOk t k = true) :
    ∃ a o, v = .ref a ∧ IsD H a ∧ DGet H a y o ∧ (∀ e, dget ds k = some e → ∃ w, o = some w ∧ Rp K F w e) ∧ (dget ds k = none → o = none) := by
  rcases dict_node fg s h with ⟨rfl, a, kvs, rfl, ha, r⟩ | ⟨rfl, a, kvs, rfl, ha, r⟩
  · obtain ⟨j, rfl⟩ := keyOk_f hk
    obtain ⟨h1, h2⟩ := kv_get r j
    have ey : y = kV j := by
      rcases sk with q | ⟨p, o, rfl, _, n⟩
      · exact rp_key q
      · cases j <;> (rcases n with ⟨_, _, _, e, _⟩ | ⟨_, _, _, e, _⟩ | ⟨_, _, _, e, _⟩ <;> cases e)
    subst ey
    exact ⟨a, _, rfl, .inl ⟨kvs, .inl ha⟩, .k ha, h1, h2⟩
  · obtain ⟨js, rfl⟩ := keyOk_t hk
    obtain ⟨h1, h2⟩ := tv_get r js
    obtain ⟨b, vs, rfl, hb, rb⟩ := sk.tuple
    have ev := rp_keys rb
    subst ev
    exact ⟨a, _, rfl, .inr ⟨kvs, .inl ha⟩, .t ha (fg _ _ hb), h1, h2⟩
end
theorem _root_.L2.PE.or {X : Cx} {e : Expr} {t t' : TE} (h : PE X e t) (h' : PE X e t') : PE X e (fun σ H Q => t σ H Q ∨ t' σ H Q) := ⟨fun pins s σ H Q I q => by
  rcases q with q | q
  · exact h.run pins s σ H Q I q
  · exact h'.run pins s σ H Q I q⟩
theorem _root_.L2.PT.or {X : Cx} {e : Expr} {t t' : TT} (h : PT X e t) (h' : PT X e t') : PT X e (fun σ H Q => t σ H Q ∨ t' σ H Q) := ⟨fun pins s σ H Q I q => by
  rcases q with q | q
  · exact h.run pins s σ H Q I q
  · exact h'.run pins s σ H Q I q⟩

/-! ## subscripts -/
def ixD (a i : PyData) : Option PyData := match asDict a with
  | some (t, ds) => if keyOk t i = true then dget ds i else none
  | none => match itemsD a, i with
    | some ds, .int j => atI ds j
    | _, _ => none
theorem bin_inv {S : Type} {g : PyData → PyData → Option PyData} {f1 f2 : Den S} {env : Env} {st st' : S} {d : PyData} (hf : dBin g f1 f2 env st = some (d, st')) : ∃ a s1 b, f1 env st = some (a, s1) ∧ f2 env s1 = some (b, st') ∧ g a b = some d := by
  unfold dBin at hf
  obtain ⟨⟨x, s1⟩, h1, hf1⟩ := Option.bind_eq_some_iff.mp hf
  obtain ⟨⟨y, s2⟩, h2, hf2⟩ := Option.bind_eq_some_iff.mp hf1
  obtain ⟨d', h3, hf3⟩ := Option.map_eq_some_iff.mp hf2
  cases hf3
  exact ⟨x, s1, y, h1, h2, h3⟩
theorem bin_mk {S : Type} {g : PyData → PyData → Option PyData} {f1 f2 : Den S} {env : Env} {st s1 st' : S} {a b d : PyData} (h1 : f1 env st = some (a, s1)) (h2 : f2 env s1 = some (b, st')) (h3 : g a b = some d) : dBin g f1 f2 env st = some (d, st') := by
  unfold dBin
  rw [h1]
  show (f2 env s1).bind _ = _
  rw [h2]
  show (g a b).map _ = _
  rw [h3]; rfl
def ixS (a i : PyData) : Option PyData := match itemsD a, i with
  | some ds, .int j => atI ds j
  | _, _ => none
theorem atI_map {F : Hp} {K : PySem.W.Frag} {vs : List V} {ds : List PyData} (r : RpAll K F vs ds) {j : Int} {d : PyData} (h : atI ds j = some d) : ∃ v, atI vs j = some v ∧ Rp K F v d := by
  unfold atI at h ⊢
  rw [r.length]
  obtain ⟨n, h1, h2⟩ := Option.bind_eq_some_iff.mp h
  obtain ⟨v, hv, rv⟩ := r.get h2
  exact ⟨v, by rw [h1]; exact hv, rv⟩
theorem sem_ixS {K : PySem.W.Frag} : Sem2 K (fun x y H Q => rIxL K x y H Q ∨ rIxT K x y H Q) ixS := fun F H x y a b d Q fg sa sb e q => by
  unfold ixS at e
  split at e
  · rename_i ds j hb
    rcases items_of (F := F) (H := H) (v := x) hb with rfl | rfl
    · obtain ⟨p, vs, rfl, hp, r⟩ := sa.list fg
      obtain ⟨v, hv, rv⟩ := atI_map r e
      exact .inl ⟨p, vs, j, v, rfl, sb.int, seqL_inj hp, hv, q.here fg rv⟩
    · obtain ⟨p, vs, rfl, hp, r⟩ := sa.tuple
      obtain ⟨v, hv, rv⟩ := atI_map r e
      exact .inr ⟨p, vs, j, v, rfl, sb.int, seqT_inj (fg _ _ hp), hv, q.here fg rv⟩
  · cases e
section
variable {X : Cx} {c : Cfg} {a b : Expr} {fa fb : Den c.I.S} {pos : Pos} {k : Nat}
theorem pv_sub_ix (hc : Calm X k) (ha : PP X c a fa) (hb : PP X c b fb) (hs : PlainIx b := by exact fun _ _ => rfl) (hs2 : NoSl b := by exact fun _ _ => rfl) : PV X c (.Subscript a b pos) (dBin ixD fa fb) :=
  (PE.or (pe_ix (ix_list.or ix_tup) ha hb hs) (pe_dget (hu_of hc.room) ha hb hs2)).imp fun σ H Q h => by
    obtain ⟨F0, G0, F, env, st, d, st', R, hf, q⟩ := h
    obtain ⟨x, s1, y, h1, h2, h3⟩ := bin_inv hf
    unfold ixD at h3
    split at h3
    · rename_i t ds hd
      right
      split at h3
      · rename_i hk
        refine ⟨F0, G0, F, env, st, x, s1, R, h1, fun F1 H1 v x1 ok1 sv => ?_⟩
        have R1 := R.step x1 ok1
        refine ⟨F0, G0, F1, env, s1, y, _, R1, h2, fun F2 H2 u x2 ok2 su => ?_⟩
        have R2 := R1.step x2 ok2
        obtain ⟨p, o, rfl, _, hg, hget, _⟩ := dget_of R2.fh (sv.mono x2.f x2.g).whole hd su.whole hk
        obtain ⟨w, rfl, rw'⟩ := hget _ h3
        exact ⟨p, w, rfl, hg, (R2.out fun F3 H3 z x3 ok3 r => q F3 H3 z ((x1.trans x2).trans x3) ok3 r).here R2.fh rw'⟩
      · cases h3
    · left
      exact op_of sem_ixS σ H Q ⟨F0, G0, F, env, st, d, st', R, bin_mk h1 h2 h3, q⟩
/-! ## in, of lists, tuples, dicts -/
def inD (neg : Bool) (a b : PyData) : Option PyData := match asDict b with
  | some (t, ds) => if keyOk t a = true then some (.bool (if neg then !(dget ds a).isSome else (dget ds a).isSome)) else none
  | none => seqInD neg a b
def tDInN (neg : Bool) (ty td : TE) : TE := fun σ H Q => ty σ H fun y H1 => td σ H1 fun x H2 => ∃ a o, x = .ref a ∧ DGet H2 a y o ∧ Q (.bl (if neg then !o.isSome else o.isSome)) H2
theorem in_of {neg : Bool} {K : PySem.W.Frag} : ∀ σ H Q, tV K c (dBin (inD neg) fa fb) σ H Q → (tOp (rInS K neg) (tP K c fa) (tP K c fb) σ H Q ∨ tDInN neg (tP K c fa) (tP K c fb) σ H Q) := fun σ H Q h => by
  obtain ⟨F0, G0, F, env, st, d, st', R, hf, q⟩ := h
  obtain ⟨x, s1, y, h1, h2, h3⟩ := bin_inv hf
  unfold inD at h3
  split at h3
  · rename_i t ds hd
    right
    split at h3
    · rename_i hk
      cases h3
      refine ⟨F0, G0, F, env, st, x, s1, R, h1, fun F1 H1 v x1 ok1 sv => ?_⟩
      have R1 := R.step x1 ok1
      refine ⟨F0, G0, F1, env, s1, y, _, R1, h2, fun F2 H2 u x2 ok2 su => ?_⟩
      have R2 := R1.step x2 ok2
      obtain ⟨p, o, rfl, _, hg, hget, hnone⟩ := dget_of R2.fh su.whole hd (sv.mono x2.f x2.g).whole hk
      have eo : o.isSome = (dget ds x).isSome := by
        cases z : dget ds x with
        | none => rw [hnone z]; rfl
        | some e => obtain ⟨w, rfl, _⟩ := hget e z; rfl
      refine ⟨p, o, rfl, hg, ?_⟩
      rw [eo]
      exact (R2.out fun F3 H3 z x3 ok3 r => q F3 H3 z ((x1.trans x2).trans x3) ok3 r).here R2.fh (.bl _)
    · cases h3
  · left
    exact op_of (sem_inS neg) σ H Q ⟨F0, G0, F, env, st, d, st', R, bin_mk h1 h2 h3, q⟩
theorem pv_in (hc : Calm X k) (ha : PP X c a fa) (hb : PP X c b fb) (hm : behindInMarks .In b = false := by rfl) : PV X c (.Compare a [.In] [b] pos) (dBin (inD false) fa fb) :=
  (PE.or (pe_cmpR (op_inS (units65 hc)) ha hb hm) (pe_cmp (pc_din (hu_of hc.room) ha hb) hm)).imp in_of
theorem pv_notIn (hc : Calm X k) (ha : PP X c a fa) (hb : PP X c b fb) (hm : behindInMarks .NotIn b = false := by rfl) : PV X c (.Compare a [.NotIn] [b] pos) (dBin (inD true) fa fb) :=
  (PE.or (pe_cmpR (op_notInS (units65 hc)) ha hb hm) (pe_cmp (pc_dnotin (hu_of hc.room) ha hb) hm)).imp in_of
theorem pb_in (hc : Calm X k) (ha : PP X c a fa) (hb : PP X c b fb) (hm : behindInMarks .In b = false := by rfl) : PB X c (.Compare a [.In] [b] pos) (dB (dBin (inD false) fa fb)) :=
  (PT.or (pt_cmpR (op_inS (units65 hc)) ha hb hm) (pt_cmp (pc_din (hu_of hc.room) ha hb) hm)).imp fun σ H Q h => in_of σ H _ (b_of σ H Q h)
theorem pb_notIn (hc : Calm X k) (ha : PP X c a fa) (hb : PP X c b fb) (hm : behindInMarks .NotIn b = false := by rfl) : PB X c (.Compare a [.NotIn] [b] pos) (dB (dBin (inD true) fa fb)) :=
  (PT.or (pt_cmpR (op_notInS (units65 hc)) ha hb hm) (pt_cmp (pc_dnotin (hu_of hc.room) ha hb) hm)).imp fun σ H Q h => in_of σ H _ (b_of σ H Q h)
end

/-! ## slices -/
def cutD (ds : List PyData) (lo hi : Option Int) : List PyData := (ds.drop (HT.sIx ds.length 0 lo)).take (HT.sIx ds.length ds.length hi - HT.sIx ds.length 0 lo)
theorem cut_rp {K : PySem.W.Frag} {F : Hp} {vs : List V} {ds : List PyData} (r : RpAll K F vs ds) (lo hi : Option Int) : RpAll K F (cutV vs lo hi) (cutD ds lo hi) := by
  unfold cutV cutD
  rw [r.length]
  exact (r.drop _).take _
def slD (a : PyData) (lo hi : Option Int) : Option PyData := match a with
  | .list ds => some (.list (cutD ds lo hi))
  | .tuple ds => some (.tuple (cutD ds lo hi))
  | _ => none
theorem sem_sl {K : PySem.W.Frag} : Sem3 K (fun x lo hi H Q => rSlL K x lo hi H Q ∨ rSlA K x lo hi H Q) slD := fun F H x a i j d Q fg sa e q => by
  unfold slD at e
  split at e
  · cases e
    obtain ⟨p, vs, rfl, hp, r⟩ := sa.list fg
    exact .inl ⟨p, vs, rfl, seqL_inj hp, OutN.lst (q.n fg) (cut_rp r i j)⟩
  · rename_i ds
    cases e
    obtain ⟨p, vs, rfl, hp, r⟩ := sa.tuple
    refine .inr ⟨p, vs, rfl, seqT_inj (fg _ _ hp), fun z => ?_, fun _ => Out.tup q fg (cut_rp r i j)⟩
    have ez : cutD ds i j = ds := by
      unfold cutD
      rw [r.length] at z
      rw [z.1, z.2]
      simp
    rw [ez] at q
    exact q.here fg (.tup hp r)
  · cases e
def slLD (a : PyData) (lo hi : Option Int) : Option PyData := match a with
  | .list ds => some (.list (cutD ds lo hi))
  | _ => none
theorem sem_slL {K : PySem.W.Frag} : Sem3N K (rSlL K) slLD := fun F H x a i j d Q fg sa e q => by
  unfold slLD at e
  split at e
  · cases e
    obtain ⟨p, vs, rfl, hp, r⟩ := sa.list fg
    exact ⟨p, vs, rfl, seqL_inj hp, OutN.lst q (cut_rp r i j)⟩
  · cases e
section
variable {X : Cx} {c : Cfg} {e : Expr} {f : Den c.I.S} {lo hi : Option Expr} {fl fh : DenO c.I.S} {p2 pos : Pos}
theorem pv_sl (he : PP X c e f) (hl : POv X c lo fl) (hh : POv X c hi fh) : PV X c (.Subscript e (.Slice lo hi none p2) pos) (dSl slD f fl fh) := pv_slice (sl_list.or sl_tupA) sem_sl he hl hh
theorem pn_sl (he : PP X c e f) (hl : POv X c lo fl) (hh : POv X c hi fh) : PN X c (.Subscript e (.Slice lo hi none p2) pos) (dSl slLD f fl fh) := pn_slice sl_list sem_slL he hl hh
end
end DL

set_option Elab.async false
set_option linter.all false
set_option maxRecDepth 100000
namespace DL
open PySem PySem.Spec PyProof.Rows L2

/-! ## [::-1] of tuples -/
section
variable {prog : Program} {w : World} {A : Around} {E : Value → Shared → Prop} {s : Shared}
theorem places_rev (n : Nat) : Builtin.Slice.slicePlaces ((n : Int) - 1) (-1) (-1) = n := by
  unfold Builtin.Slice.slicePlaces
  simp
  split <;> omega
theorem adjust_rev (n : Nat) : Builtin.Slice.sliceAdjust none none (-1) (n : Int) = ((n : Int) - 1, -1) := by
  unfold Builtin.Slice.sliceAdjust
  simp
theorem sliceApplied_rev {sl : Addr} {vs : Value} {n : Nat} {Q : Int × Int × Nat → Shared → Prop} (hs : s.heap.IsSliceOf sl .none .none vs) (ps : IsPart vs (some (-1)))
    (h : Q ((n : Int) - 1, -1, n) s) : wpAny (model prog w) A (Builtin.Slice.sliceApplied (.ref sl) (pure (n : Int))) Q E s := by
  obtain ⟨os, hos, hcs, hds⟩ := id hs
  unfold Builtin.Slice.sliceApplied Builtin.Slice.sliceFields
  refine wpAny_bind (wpAny_bind (wpAny_field hos hds (x := .none) rfl (wpAny_bind (wpAny_field hos hds (x := .none) rfl (wpAny_bind (wpAny_field hos hds (x := vs) rfl (wpAny_pure ?_)))))))
  refine wpAny_bind (HT.slicePart_ ps ?_)
  show wpAny _ _ (if ((-1 : Int) == 0) = true then _ else _) _ _ s
  rw [if_neg (by decide)]
  refine wpAny_bind (slicePart_none (wpAny_bind (slicePart_none (wpAny_bind (wpAny_pure ?_)))))
  show wpAny _ _ (match Builtin.Slice.sliceAdjust none none (-1) (n : Int) with | (lo, hi) => pure (lo, (-1 : Int), Builtin.Slice.slicePlaces lo hi (-1))) _ _ s
  rw [adjust_rev]
  show wpAny _ _ (pure ((n : Int) - 1, (-1 : Int), Builtin.Slice.slicePlaces ((n : Int) - 1) (-1) (-1))) _ _ s
  rw [places_rev]
  exact wpAny_pure h
theorem pick_rev (xs : Array Value) : ((List.range xs.size).filterMap fun (k : Nat) => xs[((xs.size : Int) - 1 + (k : Int) * (-1)).toNat]?).toArray = xs.toList.reverse.toArray := by
  have e : (List.range xs.size).filterMap (fun (k : Nat) => xs[((xs.size : Int) - 1 + (k : Int) * (-1)).toNat]?) = ((List.range xs.size).map fun k => xs.size - 1 - k).filterMap (xs[·]?) := by
    rw [List.filterMap_map]
    have : (fun (k : Nat) => xs[((xs.size : Int) - 1 + (k : Int) * (-1)).toNat]?) = (fun x => xs[x]?) ∘ fun k => xs.size - 1 - k := by
      funext k
      have e1 : ((xs.size : Int) - 1 + (k : Int) * (-1)).toNat = xs.size - 1 - k := by omega
      show xs[((xs.size : Int) - 1 + (k : Int) * (-1)).toNat]? = xs[xs.size - 1 - k]?
      rw [e1]
    rw [this]
  rw [e, PySem.W.krv_range, List.filterMap_reverse, PySem.W.krv_all]
theorem getItem_tuple_rev {t sl : Addr} {items : Array Value} {vs : Value} {Q : Value → Shared → Prop} (ht : IsTup s.heap t items) (hs : s.heap.IsSliceOf sl .none .none vs) (ps : IsPart vs (some (-1)))
    (h : Q (.ref s.heap.objs.size) { s with heap := s.heap.push { cls := .type "tuple", data := .seq items.toList.reverse.toArray } })
    (hsz : items.size ≤ sizeLine) : wpAny (model prog w) A (getItem (.ref t) (.ref sl)) Q E s := by
  have htake : sizeOk (.seq items.toList.reverse.toArray) := by
    show items.toList.reverse.toArray.size ≤ sizeLine
    simpa using hsz
  obtain ⟨os, hos, hcs, hds⟩ := id hs
  have hTs : s.TypeIs (.ref sl) "slice" := ⟨os, hos, hcs⟩
  unfold getItem
  try with_reducible refine wpAny_holding ?_
  first | refine wpAny_bind (wpAny_pure ?_) | skip
  refine wpAny_bind (wpAny_sequenceKey ht.typeIs (by decide) ?_)
  refine wpAny_bind (wpAny_callSpecial?_slot (name := Str.ofString "__getitem__") ht.typeIs PyProof.Rows.slot_tuple_getitem
    (wpAny_call_entry PyProof.Rows.slot_tuple_getitem ht.typeIs entry_tuple_getitem ?_ (args_tuple_getitem _ _)))
  show wpAny _ _ (Builtin.Tuple.tupleItemsOf (.ref t) >>= _) _ _ s
  refine wpAny_bind (tupleItemsOf_ ht ?_)
  refine wpAny_bind (wpAny_typeOf hTs ?_)
  rw [if_pos (by decide)]
  refine wpAny_bind (sliceApplied_rev hs ps ?_)
  have hno : ¬ (((items.size : Int) - 1 == 0 && (-1 : Int) == 1 && items.size == items.size) = true) := by simp
  show wpAny _ _ (if ((items.size : Int) - 1 == 0 && (-1 : Int) == 1 && items.size == items.size) = true then _ else _) _ _ s
  rw [if_neg hno]
  rw [pick_rev]
  first
    | exact wpAny_bind (m := Builtin.Tuple.tupleExact _) (wpAny_newObj_type (wpAny_pure ⟨_, rfl, wpAny_pure h⟩) htake)
    | exact wpAny_bind (m := Builtin.Tuple.tupleExact _) (wpAny_newObj_type (wpAny_bind (wpAny_pure (wpAny_pure ⟨_, rfl, wpAny_pure h⟩))) htake)
    | exact wpAny_bind (wpAny_bind (m := Builtin.Tuple.tupleExact _) (wpAny_newObj_type (wpAny_pure (wpAny_pure ⟨_, rfl, wpAny_pure h⟩)) htake))
    | exact wpAny_bind (wpAny_bind (m := Builtin.Tuple.tupleExact _) (wpAny_newObj_type (wpAny_pure ⟨_, rfl, wpAny_pure h⟩) htake))
end
def tRevT (K : PySem.W.Frag) (te : TE) : TE := fun σ H Q => te σ H fun x H1 => ∃ a xs, x = .ref a ∧ SqT K H1 a xs ∧ ∀ p, H1 p = none → Q (.ref p) (upd H1 p (.tup xs.reverse))
section
variable {X : Cx}
theorem pe_revT {e : Expr} {te : TE} {k : Nat} {p1 p2 p3 pos : Pos} (he : PE X e te) : PE X (.Subscript e (.Slice none none (some (.UnaryOp .USub (.Constant (.int 1) k p1) p2)) p3) pos) (tRevT X.K te) := by
  refine ⟨fun pins s σ H Q I h => ?_⟩
  refine Subscript_ (thn (he.run pins s σ H _ I h) fun v s1 ⟨x, H1, I1, r1, q1⟩ => ?_)
  obtain ⟨a, xs, ex, hx, q⟩ := q1
  subst ex
  cases r1
  have hst : PO X (some (.UnaryOp .USub (.Constant (.int 1) k p1) p2)) (tPart (tUn (rU fun i => .int (-i)) (tC (.int 1)))) := po_some (pe_un un_neg pe_int)
  refine wpAny_Slice ?_
  rw [evalPart_none]
  refine wpAny_pure (wpAny_pure ?_)
  refine thn (hst.run pins s1 σ H1 (fun o H4 => o = some (-1) ∧ H4 = H1) I1 ⟨1, rfl, -1, rfl, rfl, rfl⟩) fun vs s4 ⟨o, H4, I4, ps, eo, e4⟩ => ?_
  subst eo e4
  have I5 : Inv X pins σ H4 { s4 with heap := s4.heap.push { cls := .type "slice", data := .fields #[Value.none, Value.none, vs] } } := I4.kept (t' := s4.toks) fun b ob q => Heap.get?_push_of_some _ q
  obtain ⟨its, r, ht, hz⟩ := I5.tuple hx
  have hlen := r.length
  show wpAny (model X.prog X.w) X.A (subscriptTail e (.Slice none none (some (.UnaryOp .USub (.Constant (.int 1) k p1) p2)) p3) (.ref a) (.ref s4.heap.objs.size)) (EP X pins σ Q) X.xe { s4 with heap := s4.heap.push { cls := .type "slice", data := .fields #[Value.none, Value.none, vs] } }
  refine tail_any (ops := [.ref a, .ref s4.heap.objs.size]) ht.typeIs (PyProof.Rows.slot_tuple_getitem.lookup) ?_ (by with_unfolding_all rfl)
  refine getItem_tuple_rev ht (Heap.IsSliceOf.new _ .none .none vs) ps ?_ (by rw [List.size_toArray]; omega)
  refine ⟨.ref _, _, I5.laid (t' := s4.toks) (o := .tup xs.reverse) (fun b ob q => Heap.get?_push_of_some _ q) (Nat.le_refl _) ?_, rfl, q _ (I5.hok.fresh (Nat.le_refl _))⟩
  exact ⟨by rw [List.length_reverse]; exact hz, its.reverse, r.reverse, IsTup.new _ _⟩
def revD : PyData → Option PyData
  | .list ds => some (.list ds.reverse)
  | .tuple ds => some (.tuple ds.reverse)
  | _ => none
def revLD : PyData → Option PyData
  | .list ds => some (.list ds.reverse)
  | _ => none
theorem dun_inv {S : Type} {g : PyData → Option PyData} {f : Den S} {env : Env} {st st' : S} {d : PyData} (hf : dUn g f env st = some (d, st')) : ∃ a, f env st = some (a, st') ∧ g a = some d := by
  unfold dUn at hf
  obtain ⟨⟨x, s1⟩, h1, hf1⟩ := Option.bind_eq_some_iff.mp hf
  obtain ⟨d', h3, hf3⟩ := Option.map_eq_some_iff.mp hf1
  cases hf3
  exact ⟨x, h1, h3⟩
variable {c : Cfg} {e : Expr} {f : Den c.I.S}
theorem pv_rev {k : Nat} {p1 p2 p3 pos : Pos} (he : PP X c e f) : PV X c (.Subscript e (.Slice none none (some (.UnaryOp .USub (.Constant (.int 1) k p1) p2)) p3) pos) (dUn revD f) :=
  (PE.or (pe_revL he) (pe_revT he)).imp fun σ H Q ⟨F0, G0, F, env, st, d, st', R, hf, q⟩ => by
    obtain ⟨x, h1, h2⟩ := dun_inv hf
    unfold revD at h2
    split at h2
    · cases h2
      left
      refine ⟨F0, G0, F, env, st, _, _, R, h1, fun F1 H1 v x1 ok1 sv => ?_⟩
      have R1 := R.step x1 ok1
      obtain ⟨a, vs, rfl, ha, r⟩ := sv.whole.list R1.fh
      exact ⟨a, vs, rfl, seqL_inj ha, OutN.lst ((R1.out fun F3 H3 z x3 ok3 r => q F3 H3 z (x1.trans x3) ok3 r).n R1.fh) r.reverse⟩
    · cases h2
      right
      refine ⟨F0, G0, F, env, st, _, _, R, h1, fun F1 H1 v x1 ok1 sv => ?_⟩
      have R1 := R.step x1 ok1
      obtain ⟨a, vs, rfl, ha, r⟩ := sv.whole.tuple
      exact ⟨a, vs, rfl, seqT_inj (R1.fh _ _ ha), Out.tup (R1.out fun F3 H3 z x3 ok3 r => q F3 H3 z (x1.trans x3) ok3 r) R1.fh r.reverse⟩
    · cases h2
theorem pn_rev {k : Nat} {p1 p2 p3 pos : Pos} (he : PP X c e f) : PN X c (.Subscript e (.Slice none none (some (.UnaryOp .USub (.Constant (.int 1) k p1) p2)) p3) pos) (dUn revLD f) :=
  (pe_revL he).imp fun σ H Q ⟨F0, G0, F, env, st, d, st', R, hf, q⟩ => by
    obtain ⟨x, h1, h2⟩ := dun_inv hf
    unfold revLD at h2
    split at h2
    · cases h2
      refine ⟨F0, G0, F, env, st, _, _, R, h1, fun F1 H1 v x1 ok1 sv => ?_⟩
      have R1 := R.step x1 ok1
      obtain ⟨a, vs, rfl, ha, r⟩ := sv.whole.list R1.fh
      exact ⟨a, vs, rfl, seqL_inj ha, OutN.lst (R1.outN fun F3 H3 z x3 ok3 r => q F3 H3 z (x1.trans x3) ok3 (r.back x1.g)) r.reverse⟩
    · cases h2
end
end DL

set_option Elab.async false
set_option linter.all false
set_option maxRecDepth 100000
namespace DL
open PySem PySem.Spec PyProof.Rows L2

/-! ## statements that change an object which a slot owns -/
/-- slot i's datum, changed by one argument -/
def sUpd {S : Type} (i : Nat) (g : PyData → PyData → Option PyData) (f : Den S) : DenS S := fun e s => (f e s).bind fun (d, s1) => match e[i]? with
  | some (some a) => (g a d).map fun b => ((.nx, e.set i (some b)), s1)
  | _ => none
def appD : PyData → PyData → Option PyData
  | .list ds, d => if ds.length < sizeLine then some (.list (ds ++ [d])) else none
  | _, _ => none
def extD : PyData → PyData → Option PyData
  | .list ds, .list es => if ds.length + es.length ≤ sizeLine then some (.list (ds ++ es)) else none
  | _, _ => none
theorem upd_inv {S : Type} {i : Nat} {g : PyData → PyData → Option PyData} {f : Den S} {e e' : Env} {s s' : S} {fl : Fl} (h : sUpd i g f e s = some ((fl, e'), s')) :
    ∃ d a b, f e s = some (d, s') ∧ e[i]? = some (some a) ∧ g a d = some b ∧ fl = .nx ∧ e' = e.set i (some b) := by
  unfold sUpd at h
  obtain ⟨⟨d, s1⟩, h1, h2⟩ := Option.bind_eq_some_iff.mp h
  dsimp only at h2
  split at h2
  · rename_i a ha
    obtain ⟨b, h3, h4⟩ := Option.map_eq_some_iff.mp h2
    cases h4
    exact ⟨d, a, b, h1, ha, h3, rfl, rfl⟩
  · cases h2
theorem node_list {K : PySem.W.Frag} {F : Hp} {o : HO} {ds : List PyData} (n : Node K F o (.list ds)) : ∃ xs, o = .lst xs ∧ RpAll K F xs ds := by
  rcases n with ⟨xs, ds', rfl, e, r⟩ | ⟨_, _, _, e, _⟩ | ⟨_, _, _, e, _⟩
  · cases e; exact ⟨xs, rfl, r⟩
  · cases e
  · cases e
theorem node_dict {K : PySem.W.Frag} {F : Hp} {o : HO} {d : PyData} {t : Bool} {ds : List (PyData × PyData)} (n : Node K F o d) (h : asDict d = some (t, ds)) :
    (t = false ∧ ∃ kvs, o = .dK kvs ∧ RpKv K F kvs ds) ∨ (t = true ∧ ∃ kvs, o = .dT kvs ∧ RpTv K F kvs ds) := by
  have e := asDict_inv h
  subst e
  cases t with
  | false =>
    rcases n with ⟨xs, ds', _, e, r⟩ | ⟨kvs, ds', rfl, e, r⟩ | ⟨kvs, ds', rfl, e, r⟩
    · cases e
    · cases e; exact .inl ⟨rfl, kvs, rfl, r⟩
    · cases e; cases h
  | true =>
    rcases n with ⟨xs, ds', _, e, r⟩ | ⟨kvs, ds', rfl, e, r⟩ | ⟨kvs, ds', rfl, e, r⟩
    · cases e
    · cases e; exact (kv_notag r).elim
    · cases e; exact .inr ⟨rfl, kvs, rfl, r⟩
section
variable {X : Cx} {c : Cfg} {e : Expr} {f : Den c.I.S} {pos : Pos}
theorem app_upd {i : Nat} (hm : c.mu i = true) : ∀ D σ H, tS X.K c (sUpd i appD f) D σ H → tDrop (tBM X.K "list" rAppend (tVar i) (tCons (tV X.K c f) tNil)) D σ H := fun D σ H ⟨F0, G0, F, env, st, fl, env', st', R, hf, q⟩ => by
  obtain ⟨d, a, b, h1, ha, hg, rfl, rfl⟩ := upd_inv hf
  unfold appD at hg
  split at hg
  · split at hg
    · rename_i ds _ hl
      cases hg
      obtain ⟨p, o, hv, _, _, _, hp, nd⟩ := R.own hm ha
      obtain ⟨xs, rfl, _⟩ := node_list nd
      refine ⟨.ref p, hv, .inl ⟨rfl, xs, seqL_inj hp⟩, F0, G0, F, env, st, d, st', R, h1, fun F1 H1 v x1 ok1 r1 => ?_⟩
      have R1 := R.step x1 ok1
      obtain ⟨p', o', hv', g0, f0, gp, hp', nd'⟩ := R1.own hm ha
      rw [hv] at hv'
      cases hv'
      obtain ⟨ys, rfl, r⟩ := node_list nd'
      exact ⟨p, ys, v, rfl, rfl, hp', by rw [r.length]; exact hl, q F1 σ _ x1.f (R1.write hm ha hv g0 f0 gp (.inl ⟨_, _, rfl, rfl, r.append (.cons r1 .nil)⟩))⟩
    · cases hg
  · cases hg
theorem pd_append {i : Nat} {x : Str} {np apos cpos : Pos} (he : PV X c e f) (hm : c.mu i = true := by rfl) (hx : PE X (.Name x np) (tVar i) := by exact pv i)
    (hbase : attributeBase (.Name x np) "append" X.env (eval (.Name x np) X.env) = eval (.Name x np) X.env := by rfl)
    (hfew : ((backTo cpos (starEach [e] X.env)).all (fun x => !x.1) && (backToKw cpos (keywordEach [] X.env)).all (fun x => x.1.isSome) && decide (([e] : List Expr).length + ([] : List Keyword).length + (if ([] : List Keyword).isEmpty then 0 else 1) < 30)) = true := by rfl)
    (hline : (apos.endLine == cpos.line) = true := by rfl) (hs : starEach [e] X.env = (false, eval e X.env) :: starEach [] X.env := by rfl) (hplain : (backTo cpos (starEach [] X.env)).any (·.1) = false := by rfl)
    (hsw : swapsWith (.Call (.Attribute (.Name x np) "append" apos) [e] [] cpos) none pos.line X.env = pure false := by rfl) :
    PD X c (.Expr (.Call (.Attribute (.Name x np) "append" apos) [e] [] cpos) pos) (sUpd i appD f) :=
  (ps_expr (pe_bm PySem.F.plainAttrs_list PySem.F.slot_list_append PySem.F.type_list_append mt_append hx (pa_cons he pa_nil hs) hbase hfew hline hs hplain) hsw).imp (app_upd hm)
theorem ext_upd {i : Nat} (hm : c.mu i = true) : ∀ D σ H, tS X.K c (sUpd i extD f) D σ H → tDrop (tBM X.K "list" rExtend (tVar i) (tCons (tV X.K c f) tNil)) D σ H := fun D σ H ⟨F0, G0, F, env, st, fl, env', st', R, hf, q⟩ => by
  obtain ⟨d, a, b, h1, ha, hg, rfl, rfl⟩ := upd_inv hf
  unfold extD at hg
  split at hg
  · split at hg
    · rename_i ds es hl
      cases hg
      obtain ⟨p, o, hv, _, _, _, hp, nd⟩ := R.own hm ha
      obtain ⟨xs, rfl, _⟩ := node_list nd
      refine ⟨.ref p, hv, .inl ⟨rfl, xs, seqL_inj hp⟩, F0, G0, F, env, st, _, st', R, h1, fun F1 H1 v x1 ok1 r1 => ?_⟩
      have R1 := R.step x1 ok1
      obtain ⟨p', o', hv', g0, f0, gp, hp', nd'⟩ := R1.own hm ha
      rw [hv] at hv'
      cases hv'
      obtain ⟨ys, rfl, r⟩ := node_list nd'
      cases r1 with
      | lst hb rb =>
        exact ⟨p, _, ys, _, rfl, rfl, hp', R1.fh _ _ hb, by rw [r.length, rb.length]; exact hl, q F1 σ _ x1.f (R1.write hm ha hv g0 f0 gp (.inl ⟨_, _, rfl, rfl, r.append rb⟩))⟩
    · cases hg
  · cases hg
theorem pd_extend {i : Nat} {x : Str} {np apos cpos : Pos} (he : PV X c e f) (hm : c.mu i = true := by rfl) (hx : PE X (.Name x np) (tVar i) := by exact pv i)
    (hbase : attributeBase (.Name x np) "extend" X.env (eval (.Name x np) X.env) = eval (.Name x np) X.env := by rfl)
    (hfew : ((backTo cpos (starEach [e] X.env)).all (fun x => !x.1) && (backToKw cpos (keywordEach [] X.env)).all (fun x => x.1.isSome) && decide (([e] : List Expr).length + ([] : List Keyword).length + (if ([] : List Keyword).isEmpty then 0 else 1) < 30)) = true := by rfl)
    (hline : (apos.endLine == cpos.line) = true := by rfl) (hs : starEach [e] X.env = (false, eval e X.env) :: starEach [] X.env := by rfl) (hplain : (backTo cpos (starEach [] X.env)).any (·.1) = false := by rfl)
    (hsw : swapsWith (.Call (.Attribute (.Name x np) "extend" apos) [e] [] cpos) none pos.line X.env = pure false := by rfl) :
    PD X c (.Expr (.Call (.Attribute (.Name x np) "extend" apos) [e] [] cpos) pos) (sUpd i extD f) :=
  (ps_expr (pe_bm PySem.F.plainAttrs_list PySem.F.slot_list_extend PySem.F.type_list_extend mt_extend hx (pa_cons he pa_nil hs) hbase hfew hline hs hplain) hsw).imp (ext_upd hm)

/-! ## x[k] = v -/
def putD (a k v : PyData) : Option PyData := match asDict a with
  | some (t, ds) => if keyOk t k = true ∧ ds.length < sizeLine then some (mkDict t (dput ds k v)) else none
  | none => match a, k with
    | .list ds, .int j => (ixN ds.length j).map fun n => .list (ds.set n v)
    | _, _ => none
def sPut {S : Type} (i : Nat) (fk fv : Den S) : DenS S := fun e s => (fv e s).bind fun (v, s1) => (fk e s1).bind fun (k, s2) => match e[i]? with
  | some (some a) => (putD a k v).map fun b => ((.nx, e.set i (some b)), s2)
  | _ => none
theorem put_inv {S : Type} {i : Nat} {fk fv : Den S} {e e' : Env} {s s' : S} {fl : Fl} (h : sPut i fk fv e s = some ((fl, e'), s')) :
    ∃ v s1 k a b, fv e s = some (v, s1) ∧ fk e s1 = some (k, s') ∧ e[i]? = some (some a) ∧ putD a k v = some b ∧ fl = .nx ∧ e' = e.set i (some b) := by
  unfold sPut at h
  obtain ⟨⟨v, s1⟩, h1, h2⟩ := Option.bind_eq_some_iff.mp h
  obtain ⟨⟨k, s2⟩, h3, h4⟩ := Option.bind_eq_some_iff.mp h2
  dsimp only at h4
  split at h4
  · rename_i a ha
    obtain ⟨b, h5, h6⟩ := Option.map_eq_some_iff.mp h4
    cases h6
    exact ⟨v, s1, k, a, b, h1, h3, ha, h5, rfl, rfl⟩
  · cases h4
theorem _root_.L2.PS.or {X : Cx} {e : Stmt} {t t' : TS} (h : PS X e t) (h' : PS X e t') : PS X e (fun D σ H => t D σ H ∨ t' D σ H) := ⟨fun pins s σ H Q I q => by
  rcases q with q | q
  · exact h.run pins s σ H Q I q
  · exact h'.run pins s σ H Q I q⟩
theorem put_upd {i : Nat} {fk fv : Den c.I.S} (hm : c.mu i = true) : ∀ D σ H, tS X.K c (sPut i fk fv) D σ H → (tAsg (tV X.K c fv) (gSub (tVar i) (tV X.K c fk) rSetL) D σ H ∨ sDPut (tVar i) (tV X.K c fk) (tV X.K c fv) D σ H) := fun D σ H ⟨F0, G0, F, env, st, fl, env', st', R, hf, q⟩ => by
  obtain ⟨v, s1, k, a, b, h1, h2, ha, hg, rfl, rfl⟩ := put_inv hf
  unfold putD at hg
  split at hg
  · rename_i t ds hd
    split at hg
    · rename_i hk
      cases hg
      right
      refine ⟨F0, G0, F, env, st, v, s1, R, h1, fun F1 H1 u x1 ok1 r1 => ?_⟩
      have R1 := R.step x1 ok1
      obtain ⟨p, o, hv, _⟩ := R1.own hm ha
      refine ⟨.ref p, hv, F0, G0, F1, env, s1, k, st', R1, h2, fun F2 H2 w x2 ok2 r2 => ?_⟩
      have R2 := R1.step x2 ok2
      obtain ⟨p', o', hv', g0, f0, gp, hp', nd'⟩ := R2.own hm ha
      rw [hv] at hv'
      cases hv'
      have rv := r1.mono x2.f
      rcases node_dict nd' hd with ⟨rfl, kvs, rfl, r⟩ | ⟨rfl, kvs, rfl, r⟩
      · obtain ⟨j, rfl⟩ := keyOk_f hk.1
        have ej := rp_key r2
        subst ej
        exact ⟨p, _, rfl, .k hp' (by rw [kv_len r]; exact hk.2), q F2 σ _ (x1.f.trans x2.f) (R2.write hm ha hv g0 f0 gp (.inr (.inl ⟨_, _, rfl, rfl, kv_put r j rv⟩)))⟩
      · obtain ⟨js, rfl⟩ := keyOk_t hk.1
        cases r2 with
        | tup hb rb =>
          have ev := rp_keys rb
          subst ev
          exact ⟨p, _, rfl, .t hp' (R2.fh _ _ hb) (by rw [tv_len r]; exact hk.2), q F2 σ _ (x1.f.trans x2.f) (R2.write hm ha hv g0 f0 gp (.inr (.inr ⟨_, _, rfl, rfl, tv_put r js rv⟩)))⟩
    · cases hg
  · split at hg
    · trace_state
      rename_i ds j hnn
      obtain ⟨n, h3, h4⟩ := Option.map_eq_some_iff.mp hg
      cases h4
      left
      refine ⟨F0, G0, F, env, st, v, s1, R, h1, fun F1 H1 u x1 ok1 r1 => ?_⟩
      have R1 := R.step x1 ok1
      obtain ⟨p, o, hv, _⟩ := R1.own hm ha
      refine ⟨.ref p, hv, F0, G0, F1, env, s1, _, st', R1, h2, fun F2 H2 w x2 ok2 r2 => ?_⟩
      have R2 := R1.step x2 ok2
      obtain ⟨p', o', hv', g0, f0, gp, hp', nd'⟩ := R2.own hm ha
      rw [hv] at hv'
      cases hv'
      have rv := r1.mono x2.f
      obtain ⟨ys, rfl, r⟩ := node_list nd'
      cases r2
      exact ⟨p, ys, j, n, rfl, rfl, hp', by rw [r.length]; exact h3, q F2 σ _ (x1.f.trans x2.f) (R2.write hm ha hv g0 f0 gp (.inl ⟨_, _, rfl, rfl, r.set rv n⟩))⟩
    · cases hg
theorem pd_put {k : Nat} {i : Nat} {x : Str} {np tpos : Pos} {ek ev : Expr} {fk fv : Den c.I.S} (hc : Calm X k) (hk : PV X c ek fk) (hv : PV X c ev fv) (hm : c.mu i = true := by rfl) (hx : PE X (.Name x np) (tVar i) := by exact pv i)
    (ha : ∀ v, assign (.Subscript (.Name x np) ek tpos) X.env v = (do
      let ov ← holding [v] (eval (.Name x np) X.env)
      let iv ← holding [v, ov] (eval ek X.env)
      standAt tpos
      holding [v, ov, iv] (setItem ov iv v)
      release [v, ov, iv] []) := by intro _; rfl)
    (hs : swapsWithSole [.Subscript (.Name x np) ek tpos] ev pos.line X.env = pure false := by rfl) (hw : swappedStores [.Subscript (.Name x np) ek tpos] ev X.env = pure none := by rfl)
    (h1 : (assignEach [.Subscript (.Name x np) ek tpos] X.env).map (·.2) = [assign (.Subscript (.Name x np) ek tpos) X.env] := by rfl)
    (hs2 : swapsWith ev (some (.Subscript (.Name x np) ek tpos)) pos.line X.env = pure false := by rfl) :
    PD X c (.Assign [.Subscript (.Name x np) ek tpos] ev pos) (sPut i fk fv) :=
  (PS.or (ps_asg hv (pg_sub hx hk set_list ha) hs hw h1) (ps_dput (hu_of hc.room) hx hk hv hs2)).imp (put_upd hm)

/-! ## y = x.pop() -/
def sPop {S : Type} (j i : Nat) : DenS S := fun e s => match e[i]? with
  | some (some (.list ds)) => match ds.getLast? with
    | some d => some ((.nx, (e.set i (some (.list ds.dropLast))).set j (some d)), s)
    | none => none
  | _ => none
def sPopD {S : Type} (i : Nat) : DenS S := fun e s => match e[i]? with
  | some (some (.list ds)) => if ds = [] then none else some ((.nx, e.set i (some (.list ds.dropLast))), s)
  | _ => none
theorem dropLast_rp {K : PySem.W.Frag} {F : Hp} {vs : List V} {ds : List PyData} (r : RpAll K F vs ds) : RpAll K F vs.dropLast ds.dropLast := by
  rw [List.dropLast_eq_take, List.dropLast_eq_take, r.length]
  exact r.take _
theorem pd_pop {i j : Nat} {x y : Str} {np yp apos cpos : Pos} (hN : X.N.Nodup) (hj : X.N[j]? = some y) (hy : Loc X.env.scope y) (hm : c.mu i = true := by rfl) (hmj : c.mu j = false := by rfl) (hfx : c.free j := by (intro _ h; simp [Cfg.fx] at h)) (hx : PE X (.Name x np) (tVar i) := by exact pv i)
    (hbase : attributeBase (.Name x np) "pop" X.env (eval (.Name x np) X.env) = eval (.Name x np) X.env := by rfl) (hline : (apos.endLine == cpos.line) = true := by rfl)
    (hs : swapsWith (.Call (.Attribute (.Name x np) "pop" apos) [] [] cpos) (some (.Name y yp)) pos.line X.env = pure false := by rfl)
    (hf : X.fn y = true ∨ X.env.scope.names.lookup y = some .local := by first | exact .inl rfl | exact .inr rfl) :
    PD X c (.Assign [.Name y yp] (.Call (.Attribute (.Name x np) "pop" apos) [] [] cpos) pos) (sPop j i) :=
  (ps_set hN hj hy (pe_bm0 PySem.F.plainAttrs_list PySem.F.slot_list_pop PySem.F.type_list_pop mt_pop hx hbase hline) hs hf).imp fun D σ H ⟨F0, G0, F, env, st, fl, env', st', R, hg, q⟩ => by
    unfold sPop at hg
    split at hg
    · rename_i ds ha
      split at hg
      · rename_i d hd
        cases hg
        obtain ⟨p, o, hv, g0, f0, gp, hp, nd⟩ := R.own hm ha
        obtain ⟨xs, rfl, r⟩ := node_list nd
        have hd2 : ds[ds.length - 1]? = some d := by rw [← List.getLast?_eq_getElem?]; exact hd
        obtain ⟨v, hv2, rv⟩ := r.get hd2
        rw [← r.length] at hv2
        refine ⟨.ref p, hv, .inl ⟨rfl, xs, seqL_inj hp⟩, p, xs, v, rfl, rfl, hp, hv2, ?_⟩
        have R1 := R.write hm ha hv g0 f0 gp (.inl ⟨_, _, rfl, rfl, dropLast_rp r⟩)
        exact q F _ _ (Same.refl _) (R1.setV hmj hfx rv)
      · cases hg
    · cases hg
theorem pd_popD {i : Nat} {x : Str} {np apos cpos : Pos} (hm : c.mu i = true := by rfl) (hx : PE X (.Name x np) (tVar i) := by exact pv i)
    (hbase : attributeBase (.Name x np) "pop" X.env (eval (.Name x np) X.env) = eval (.Name x np) X.env := by rfl) (hline : (apos.endLine == cpos.line) = true := by rfl)
    (hsw : swapsWith (.Call (.Attribute (.Name x np) "pop" apos) [] [] cpos) none pos.line X.env = pure false := by rfl) :
    PD X c (.Expr (.Call (.Attribute (.Name x np) "pop" apos) [] [] cpos) pos) (sPopD i) :=
  (ps_expr (pe_bm0 PySem.F.plainAttrs_list PySem.F.slot_list_pop PySem.F.type_list_pop mt_pop hx hbase hline) hsw).imp fun D σ H ⟨F0, G0, F, env, st, fl, env', st', R, hg, q⟩ => by
    unfold sPopD at hg
    split at hg
    · rename_i ds ha
      split at hg
      · cases hg
      · rename_i hne
        cases hg
        obtain ⟨p, o, hv, g0, f0, gp, hp, nd⟩ := R.own hm ha
        obtain ⟨xs, rfl, r⟩ := node_list nd
        have hl : 0 < ds.length := List.length_pos_iff.mpr hne
        obtain ⟨v, hv2, rv⟩ := r.get (List.getElem?_eq_getElem (show ds.length - 1 < ds.length by omega))
        rw [← r.length] at hv2
        refine ⟨.ref p, hv, .inl ⟨rfl, xs, seqL_inj hp⟩, p, xs, v, rfl, rfl, hp, hv2, ?_⟩
        exact q F _ _ (Same.refl _) (R.write hm ha hv g0 f0 gp (.inl ⟨_, _, rfl, rfl, dropLast_rp r⟩))
    · cases hg
end
end DL

set_option Elab.async false
set_option linter.all false
set_option maxRecDepth 100000
namespace DL
open PySem PySem.Spec PyProof.Rows L2

/-! ## the source of draws -/
structure Src where
  cells : List Int
  left : Int
  mixed : Int
  turn : Int
  small : cells.length ≤ 63
def Src.kvs (s : Src) (c0 : Addr) : List (Key × V) := [(.inr "cells", .ref c0), (.inr "left", .int s.left), (.inr "mixed", .int s.mixed), (.inr "turn", .int s.turn)]
def srcOk (s0 c0 : Addr) (s : Src) (H : Hp) : Prop := H s0 = some (.dK (s.kvs c0)) ∧ H c0 = some (.lst (s.cells.map V.int))
def srcI (s0 c0 : Addr) : SrcI := ⟨Src, fun a => a == s0 || a == c0, srcOk s0 c0, fun {s H H'} h o => by
    refine ⟨?_, ?_⟩
    · rw [h s0 (by simp)]; exact o.1
    · rw [h c0 (by simp)]; exact o.2, fun {s H a} o h => by
    rw [Bool.or_eq_true, beq_iff_eq, beq_iff_eq] at h
    rcases h with rfl | rfl
    · exact ⟨_, o.1, fun xs e => by cases e⟩
    · exact ⟨_, o.2, fun xs e => by cases e⟩⟩
def srcC (s0 c0 : Addr) (i : Nat) (mu : Nat → Bool) : Cfg := ⟨srcI s0 c0, mu, [(i, .ref s0)]⟩
theorem srcMask {s0 c0 : Addr} {H H' : Hp} (h : ∀ a, a ≠ s0 → a ≠ c0 → H' a = H a) : (srcI s0 c0).mask H' = (srcI s0 c0).mask H := by
  funext a
  unfold SrcI.mask
  cases q : (srcI s0 c0).hid a with
  | true => rfl
  | false =>
    have q' : (a == s0 || a == c0) = false := q
    rw [Bool.or_eq_false_iff, beq_eq_false_iff_ne, beq_eq_false_iff_ne] at q'
    exact h a q'.1 q'.2
section
variable {s0 c0 : Addr} {i : Nat} {mu : Nat → Bool} {K : PySem.W.Frag} {F0 G0 F : Hp} {σ : L2.St} {H H' : Hp} {env : Env} {st st' : Src}
theorem Rel.src_step (R : Rel (srcC s0 c0 i mu) K F0 G0 F σ H env st) (h : ∀ a, a ≠ s0 → a ≠ c0 → H' a = H a) (ok : srcOk s0 c0 st' H') : Rel (srcC s0 c0 i mu) K F0 G0 F σ H' env st' := by
  refine R.step ?_ ok
  have e : (srcC s0 c0 i mu).mask H' = (srcC s0 c0 i mu).mask H := srcMask h
  rw [e]
  exact Ext.refl R.fg
theorem Rel.srcAt (R : Rel (srcC s0 c0 i mu) K F0 G0 F σ H env st) : σ[i]? = some (some (.ref s0)) := R.fx i _ (List.mem_singleton.mpr rfl)
end
/-- one of the numbers -/
inductive SrcF | left | mixed | turn
def SrcF.key : SrcF → Str | .left => "left" | .mixed => "mixed" | .turn => "turn"
def SrcF.get : SrcF → Src → Int | .left, s => s.left | .mixed, s => s.mixed | .turn, s => s.turn
def SrcF.put : SrcF → Int → Src → Src
  | .left, v, s => { s with left := v }
  | .mixed, v, s => { s with mixed := v }
  | .turn, v, s => { s with turn := v }
theorem SrcF.val (f : SrcF) (s : Src) (c0 : Addr) : valV (s.kvs c0) (.inr f.key) = some (.int (f.get s)) := by
  cases f <;> (simp only [Src.kvs, valV, SrcF.key, SrcF.get]; rfl)
theorem SrcF.puts (f : SrcF) (v : Int) (s : Src) (c0 : Addr) : putK (s.kvs c0) (.inr f.key) (.int v) = (f.put v s).kvs c0 := by
  cases f <;> (simp only [Src.kvs, putK, SrcF.key, SrcF.put]; rfl)
theorem SrcF.cells (f : SrcF) (v : Int) (s : Src) : (f.put v s).cells = s.cells := by cases f <;> rfl
theorem cells_val (s : Src) (c0 : Addr) : valV (s.kvs c0) (.inr "cells") = some (.ref c0) := by simp only [Src.kvs, valV]; rfl
def dSrc (f : SrcF) : Den Src := fun _ s => some (.int (f.get s), s)
def dSrcLen : Den Src := fun _ s => some (.int s.cells.length, s)
def sSrc (f : SrcF) (g : Den Src) : DenS Src := fun e s => (g e s).bind fun (d, s1) => match d with
  | .int v => some ((.nx, e), f.put v s1)
  | _ => none
def Src.popped (s : Src) (v : Int) : Src := ⟨s.cells.dropLast, v, s.mixed, s.turn, by rw [List.length_dropLast]; have := s.small; omega⟩
def sSrcPop : DenS Src := fun e s => match s.cells.getLast? with
  | some v => some ((.nx, e), s.popped v)
  | none => none
section
variable {X : Cx} {s0 c0 : Addr} {i k : Nat} {mu : Nat → Bool} {x : Str} {p1 p2 p3 pos : Pos} {kk : Nat}
theorem pv_src (f : SrcF) (hc : Calm X k) (hx : PE X (.Name x p1) (tVar i) := by exact pv i) (hs : NoSl (.Constant (.str f.key) kk p2) := by exact fun _ _ => rfl) : PV X (srcC s0 c0 i mu) (.Subscript (.Name x p1) (.Constant (.str f.key) kk p2) p3) (dSrc f) :=
  (pe_dget (hu_of hc.room) hx (pe_str) hs).imp fun σ H Q ⟨F0, G0, F, env, st, d, st', R, hf, q⟩ => by
    cases hf
    refine ⟨.ref s0, R.srcAt, s0, .int (f.get st), rfl, ?_, q F H _ (Ext.refl R.fg) R.src (.int _)⟩
    rw [← f.val st c0]
    exact DGet.k (k := .inr f.key) R.src.1
theorem pv_srcLen (hc : Calm X k) (hg : Gl X "len") (hm : X.mg "len" = none) (hx : PE X (.Name x p1) (tVar i) := by exact pv i) (hs : NoSl (.Constant (.str "cells") kk p2) := by exact fun _ _ => rfl) {p4 p5 : Pos}
    (he : starEach [Expr.Subscript (.Name x p1) (.Constant (.str "cells") kk p2) p3] X.env = (false, eval (Expr.Subscript (.Name x p1) (.Constant (.str "cells") kk p2) p3) X.env) :: starEach [] X.env := by rfl) (hpl : (backTo p5 (starEach [] X.env)).any (·.1) = false := by rfl) :
    PV X (srcC s0 c0 i mu) (.Call (.Name "len" p4) [.Subscript (.Name x p1) (.Constant (.str "cells") kk p2) p3] [] p5) dSrcLen :=
  (pe_callB call_len_seq hg hm PySem.boot_len (pa_cons (pe_dget (hu_of hc.room) hx (pe_str) hs) pa_nil)).imp fun σ H Q ⟨F0, G0, F, env, st, d, st', R, hf, q⟩ => by
    cases hf
    refine ⟨.ref s0, R.srcAt, s0, .ref c0, rfl, ?_, c0, _, rfl, .inl (seqL_inj R.src.2), ?_⟩
    · rw [← cells_val st c0]; exact DGet.k (k := .inr "cells") R.src.1
    · rw [List.length_map]; exact q F H _ (Ext.refl R.fg) R.src (.int _)
theorem pd_src (f : SrcF) {e : Expr} {g : Den Src} (hc : Calm X k) (he : PV X (srcC s0 c0 i mu) e g) (hx : PE X (.Name x p1) (tVar i) := by exact pv i)
    (hs : swapsWith e (some (.Subscript (.Name x p1) (.Constant (.str f.key) kk p2) p3)) pos.line X.env = pure false := by rfl) :
    PD X (srcC s0 c0 i mu) (.Assign [.Subscript (.Name x p1) (.Constant (.str f.key) kk p2) p3] e pos) (sSrc f g) :=
  (ps_dput (hu_of hc.room) hx pe_str he hs).imp fun D σ H ⟨F0, G0, F, env, st, fl, env', st', R, hf, q⟩ => by
    unfold sSrc at hf
    obtain ⟨⟨d, s1⟩, h1, hf1⟩ := Option.bind_eq_some_iff.mp hf
    dsimp only at hf1
    split at hf1
    · rename_i v
      cases hf1
      refine ⟨F0, G0, F, env, st, _, s1, R, h1, fun F1 H1 w x ok r => ?_⟩
      cases r
      have R1 := R.step x ok
      refine ⟨.ref s0, R1.srcAt, s0, _, rfl, .k (k := .inr f.key) ok.1 (by simp [Src.kvs]; decide), q F1 σ _ x.f (R1.src_step (fun a n _ => upd_ne n) ⟨?_, ?_⟩)⟩
      · rw [upd_same, f.puts]
      · have nc : c0 ≠ s0 := fun z => by
          have h2 := ok.2
          rw [z, ok.1] at h2; cases h2
        rw [upd_ne nc, f.cells]; exact ok.2
    · cases hf1
theorem pd_srcPop (hc : Calm X k) {p4 p5 p6 p7 p8 : Pos} {k2 : Nat} (hx : PE X (.Name x p1) (tVar i) := by exact pv i) (hx2 : PE X (.Name x p4) (tVar i) := by exact pv i) (hs : NoSl (.Constant (.str "cells") k2 p5) := by exact fun _ _ => rfl)
    (hbase : attributeBase (.Subscript (.Name x p4) (.Constant (.str "cells") k2 p5) p6) "pop" X.env (eval (.Subscript (.Name x p4) (.Constant (.str "cells") k2 p5) p6) X.env) = eval (.Subscript (.Name x p4) (.Constant (.str "cells") k2 p5) p6) X.env := by rfl) (hline : (p7.endLine == p8.line) = true := by rfl)
    (hsw : swapsWith (.Call (.Attribute (.Subscript (.Name x p4) (.Constant (.str "cells") k2 p5) p6) "pop" p7) [] [] p8) (some (.Subscript (.Name x p1) (.Constant (.str "left") kk p2) p3)) pos.line X.env = pure false := by rfl) :
    PD X (srcC s0 c0 i mu) (.Assign [.Subscript (.Name x p1) (.Constant (.str "left") kk p2) p3] (.Call (.Attribute (.Subscript (.Name x p4) (.Constant (.str "cells") k2 p5) p6) "pop" p7) [] [] p8) pos) sSrcPop :=
  (ps_dput (hu_of hc.room) hx pe_str (pe_bm0 PySem.F.plainAttrs_list PySem.F.slot_list_pop PySem.F.type_list_pop mt_pop (pe_dget (hu_of hc.room) hx2 pe_str hs) hbase hline) hsw).imp fun D σ H ⟨F0, G0, F, env, st, fl, env', st', R, hf, q⟩ => by
    unfold sSrcPop at hf
    split at hf
    · rename_i v hv
      cases hf
      have ok := R.src
      have h1 : H s0 = some (.dK (st.kvs c0)) := ok.1
      have h2 : H c0 = some (.lst (st.cells.map V.int)) := ok.2
      have nc : c0 ≠ s0 := fun z => by rw [z, h1] at h2; cases h2
      have hv2 : (st.cells.map V.int)[(st.cells.map V.int).length - 1]? = some (.int v) := by
        rw [List.length_map, List.getElem?_map, ← List.getLast?_eq_getElem?, hv]; rfl
      refine ⟨.ref s0, R.srcAt, s0, .ref c0, rfl, ?_, .inl ⟨rfl, _, seqL_inj h2⟩, c0, _, _, rfl, rfl, h2, hv2, ?_⟩
      · rw [← cells_val st c0]; exact DGet.k (k := .inr "cells") h1
      · refine ⟨.ref s0, R.srcAt, s0, _, rfl, .k (k := .inr "left") (by rw [upd_ne nc.symm]; exact h1) (by simp [Src.kvs]; decide), q F σ _ (Same.refl _) (R.src_step (fun a n m => by rw [upd_ne n, upd_ne m]) ⟨?_, ?_⟩)⟩
        · rw [upd_same]; exact congrArg (fun z => some (HO.dK z)) (SrcF.puts .left v st c0)
        · rw [upd_ne nc, upd_same]; show _ = some (HO.lst ((st.cells.dropLast).map V.int)); rw [List.map_dropLast]
    · cases hf
end

/-! ## defs that draw -/
def spS (K : PySem.W.Frag) (n : Nat) (g : List PyData → Src → Option (PyData × Src)) : SpG := fun vs H Q => ∃ s0 c0 vs', vs = .ref s0 :: vs' ∧ vs'.length = n ∧ ∃ F ds st d st', Same F ((srcI s0 c0).mask H) ∧ RpAll K F vs' ds ∧ srcOk s0 c0 st H ∧ g ds st = some (d, st') ∧
  ∀ F' H' v, Ext F ((srcI s0 c0).mask H) F' ((srcI s0 c0).mask H') → srcOk s0 c0 st' H' → Rp K F' v d → Q v H'
theorem spS.mono {K : PySem.W.Frag} {n : Nat} {g g' : List PyData → Src → Option (PyData × Src)} (h : ∀ ds s d, g' ds s = some d → g ds s = some d) : ∀ vs H Q, spS K n g' vs H Q → spS K n g vs H Q :=
  fun vs H Q ⟨s0, c0, vs', l, m, F, ds, st, d, st', a, b, o, e, q⟩ => ⟨s0, c0, vs', l, m, F, ds, st, d, st', a, b, o, h _ _ _ e, q⟩
def dApS (g : List PyData → Src → Option (PyData × Src)) (r : DenA Src) : Den Src := fun e s => (r e s).bind fun (as, s1) => g as s1
section
variable {X : Cx} {s0 c0 : Addr} {i k n : Nat} {mu : Nat → Bool} {x y : Str} {p p1 pos : Pos} {es : List Expr} {fs : DenA Src} {g : List PyData → Src → Option (PyData × Src)}
theorem pv_callS (D : DefG X.prog X.w X.K X.mg X.base k x (spS X.K n g)) (hr : Calm X k) (hg : Gl X x) (ha : PAv X (srcC s0 c0 i mu) es fs) (hn : es.length = n := by rfl)
    (hlen : ∀ env st as st', fs env st = some (as, st') → as.length = n) (hy : PE X (.Name y p1) (tVar i) := by exact pv i) (hdb : (x == ("__debug__" : Str)) = false := by decide) (he : starEach (.Name y p1 :: es) X.env = (false, eval (.Name y p1) X.env) :: starEach es X.env := by rfl) (hpl : (backTo pos (starEach es X.env)).any (·.1) = false := by rfl) :
    PV X (srcC s0 c0 i mu) (.Call (.Name x p) (.Name y p1 :: es) [] pos) (dApS g fs) := (pe_callG D hr hg (pa_cons hy ha) hdb he hpl).imp fun σ H Q ⟨F0, G0, F, env, st, d, st', R, hf, q⟩ => by
  unfold dApS at hf
  obtain ⟨⟨as, s1⟩, h1, h2⟩ := Option.bind_eq_some_iff.mp hf
  refine ⟨.ref s0, R.srcAt, F0, G0, F, env, st, as, s1, R, h1, fun F1 H1 vs x1 ok1 r1 => ?_⟩
  have R1 := R.step x1 ok1
  exact ⟨s0, c0, vs, rfl, by rw [r1.length]; exact hlen _ _ _ _ h1, F1, as, s1, d, st', R1.fg, r1, ok1, h2, fun F' H' v x2 ok2 r2 => q F' H' v (x1.trans x2) ok2 r2⟩
end
/-- what a drawing body hands back; slot 0 holds the source -/
def runS (N : Nat) (g : DenS Src) (ds : List PyData) (s : Src) : Option (PyData × Src) := match g (none :: ds.map some ++ List.replicate (N - (ds.length + 1)) none) s with
  | some ((.ret d, _), s1) => some (d, s1)
  | some ((.nx, _), s1) => some (.none, s1)
  | _ => none
theorem relS_start {K : PySem.W.Frag} {s0 c0 : Addr} {mu : Nat → Bool} {F H : Hp} {vs : List V} {ds : List PyData} {N : List Str} {st : Src} (fh : Same F ((srcI s0 c0).mask H)) (ok : srcOk s0 c0 st H) (r : RpAll K F vs ds) (hm : ∀ i, i < ds.length + 1 → mu i = false) :
    Rel (srcC s0 c0 0 mu) K F ((srcI s0 c0).mask H) F (L2.start N (.ref s0 :: vs)) H (none :: ds.map some ++ List.replicate (N.length - (ds.length + 1)) none) st := by
  have hl := r.length
  have hs : ∀ i d, (none :: ds.map some ++ List.replicate (N.length - (ds.length + 1)) none : Env)[i]? = some (some d) → ∃ j, i = j + 1 ∧ j < ds.length ∧ ds[j]? = some d := fun i d h => by
    cases i with
    | zero => cases h
    | succ j =>
      rw [List.cons_append, List.getElem?_cons_succ] at h
      have hi : j < ds.length := by
        by_cases hi : j < ds.length
        · exact hi
        · rw [List.getElem?_append_right (by simpa using hi), List.getElem?_replicate] at h
          split at h <;> cases h
      rw [List.getElem?_append_left (by simpa using hi), List.getElem?_map] at h
      obtain ⟨d', h1, h2⟩ := Option.map_eq_some_iff.mp h
      cases h2
      exact ⟨j, rfl, hi, h1⟩
  refine ⟨Ext.refl fh, ok, fun i v h => ?_, ?_, fun i d h => ?_, fun i j p d e hi hj h1 _ _ _ => ?_⟩
  · cases List.mem_singleton.mp h
    unfold L2.start; rfl
  · unfold L2.start; simp [hl]
  · obtain ⟨j, rfl, hi, h1⟩ := hs i d h
    obtain ⟨v, hv, rv⟩ := r.get h1
    refine ⟨v, ?_, by rw [if_neg (by show ¬ mu (j + 1) = true; rw [hm (j + 1) (by omega)]; decide)]; exact rv⟩
    unfold L2.start
    rw [List.map_cons, List.cons_append, List.getElem?_cons_succ, List.getElem?_append_left (by rw [List.length_map, hl]; exact hi), List.getElem?_map, hv]; rfl
  · obtain ⟨j', rfl, hi', _⟩ := hs i d h1
    have : mu (j' + 1) = true := hi
    rw [hm (j' + 1) (by omega)] at this
    cases this
theorem fnG_src {P : Program} {w : World} {K : PySem.W.Frag} {mg : Str → Option Value} {base : Heap} {k : Nat} {f : Addr} {fd : FuncData} {ps N : List Str} {x qual p0 : Str} {st : Stmt} {g : DenS Src} (mu : Nat → Bool)
    (F : Fun K x qual st f fd) (S : FnScope N (p0 :: ps) (defScope st)) (hm : ∀ i, i < ps.length + 1 → mu i = false)
    (hbody : ∀ (cdv : Value) (A : Around) (outer : List PySem.Env) (s : Shared) (H : Hp) (s0 c0 : Addr), Calm (cxOf CX0 P w K mg base N qual (defScope st) f cdv A outer s H E0).nox k → PDs (cxOf CX0 P w K mg base N qual (defScope st) f cdv A outer s H E0).nox (srcC s0 c0 0 mu) (defBody st) g) :
    FnG P w K mg base (k + 1) f fd (p0 :: ps) (spS K ps.length (runS N.length g)) := by
  refine FnG.of F S (fun vs H Q ⟨s0, c0, vs', e, l, _⟩ => by rw [e, List.length_cons, List.length_cons, l]) fun cdv A outer s H vs Q hgd hr ⟨s0, c0, vs', e, hl, F', ds, st0, d, st', fh, r, ok, hg, q⟩ => ?_
  subst e
  refine ⟨_, (hbody cdv A outer s H s0 c0 ⟨hr, hgd⟩).nox, ?_⟩
  have hld : ds.length = ps.length := by rw [← r.length]; exact hl
  unfold runS at hg
  have hm' : ∀ i, i < ds.length + 1 → mu i = false := fun i hi => hm i (by rw [← hld]; exact hi)
  split at hg
  · rename_i d' e1 u1 h
    cases hg
    exact ⟨F', _, F', _, st0, _, e1, _, relS_start fh ok r hm', h, fun F1 H1 v x ok2 rv => q _ _ _ x ok2 rv⟩
  · rename_i e1 u1 h
    cases hg
    exact ⟨F', _, F', _, st0, _, e1, _, relS_start fh ok r hm', h, fun F1 σ1 H1 _ R1 => q _ _ _ R1.ext R1.src .non⟩
  · cases hg
end DL

set_option Elab.async false
set_option linter.all false
set_option maxRecDepth 100000
namespace DL
open PySem PySem.Spec PyProof.Rows L2

/-! ## arguments, some of them new objects -/
inductive Mx (K : PySem.W.Frag) (F G : Hp) : Hp → List Bool → List V → List PyData → Prop
  | nil {G0 : Hp} : Mx K F G G0 [] [] []
  | v {G0 : Hp} {ms : List Bool} {vs : List V} {ds : List PyData} {v : V} {d : PyData} : Rp K F v d → Mx K F G G0 ms vs ds → Mx K F G G0 (false :: ms) (v :: vs) (d :: ds)
  | n {G0 G1 : Hp} {ms : List Bool} {vs : List V} {ds : List PyData} {p : Addr} {o : HO} {d : PyData} : G0 p = none → F p = none → G p = some o → Node K F o d → Same G0 G1 → G1 p = some o → Mx K F G G1 ms vs ds → Mx K F G G0 (true :: ms) (.ref p :: vs) (d :: ds)
theorem Mx.back {K : PySem.W.Frag} {F G G0 G1 : Hp} {ms : List Bool} {vs : List V} {ds : List PyData} (h : Mx K F G G1 ms vs ds) (s : Same G0 G1) : Mx K F G G0 ms vs ds := by
  induction h generalizing G0 with
  | nil => exact .nil
  | v a _ ih => exact .v a (ih s)
  | n a b g nd s2 e m ih => exact .n (s.free a) b g nd (s.trans s2) e m
theorem Mx.length {K : PySem.W.Frag} {F G G0 : Hp} {ms : List Bool} {vs : List V} {ds : List PyData} (h : Mx K F G G0 ms vs ds) : vs.length = ms.length ∧ ds.length = ms.length := by
  induction h with
  | nil => exact ⟨rfl, rfl⟩
  | v a _ ih => exact ⟨congrArg Nat.succ ih.1, congrArg Nat.succ ih.2⟩
  | n a b g nd s2 e m ih => exact ⟨congrArg Nat.succ ih.1, congrArg Nat.succ ih.2⟩
def tAM (K : PySem.W.Frag) (c : Cfg) (ms : List Bool) (f : DenA c.I.S) : TA := fun σ H Q => ∃ F0 G0 F env st ds st', Rel c K F0 G0 F σ H env st ∧ f env st = some (ds, st') ∧
  ∀ F' H' vs, Ext F (c.mask H) F' (c.mask H') → c.I.ok st' H' → Mx K F' (c.mask H') (c.mask H) ms vs ds → Q vs H'
abbrev PAm (X : Cx) (c : Cfg) (e : List Expr) (ms : List Bool) (f : DenA c.I.S) : Prop := PA X e (tAM X.K c ms f)
section
variable {X : Cx} {c : Cfg} {e : Expr} {es : List Expr} {ms : List Bool} {f : Den c.I.S} {fs : DenA c.I.S} {pos : Pos}
theorem pam_nil : PAm X c [] [] dANil := pa_nil.imp fun σ H Q ⟨F0, G0, F, env, st, ds, st', R, hf, q⟩ => by
  cases hf
  exact q F H [] (Ext.refl R.fg) R.src .nil
theorem pam_v (ha : PV X c e f) (hr : PAm X c es ms fs) (hs : starEach (e :: es) X.env = (false, eval e X.env) :: starEach es X.env := by rfl) : PAm X c (e :: es) (false :: ms) (dACons f fs) :=
  (pa_cons ha hr hs).imp fun σ H Q ⟨F0, G0, F, env, st, ds, st', R, hf, q⟩ => by
    obtain ⟨d, s1, ds', h1, h2, rfl⟩ := acons_inv hf
    refine ⟨F0, G0, F, env, st, d, s1, R, h1, fun F1 H1 v x1 ok1 r1 => ?_⟩
    exact ⟨F0, G0, F1, env, s1, ds', st', R.step x1 ok1, h2, fun F2 H2 vs x2 ok2 r2 => q F2 H2 _ (x1.trans x2) ok2 (.v (r1.mono x2.f) (r2.back x1.g))⟩
theorem pam_n (ha : PN X c e f) (hr : PAm X c es ms fs) (hs : starEach (e :: es) X.env = (false, eval e X.env) :: starEach es X.env := by rfl) : PAm X c (e :: es) (true :: ms) (dACons f fs) :=
  (pa_cons ha hr hs).imp fun σ H Q ⟨F0, G0, F, env, st, ds, st', R, hf, q⟩ => by
    obtain ⟨d, s1, ds', h1, h2, rfl⟩ := acons_inv hf
    refine ⟨F0, G0, F, env, st, d, s1, R, h1, fun F1 H1 v x1 ok1 r1 => ?_⟩
    obtain ⟨p, o, rfl, n, nf, g, nd⟩ := r1
    exact ⟨F0, G0, F1, env, s1, ds', st', R.step x1 ok1, h2, fun F2 H2 vs x2 ok2 r2 => q F2 H2 _ (x1.trans x2) ok2 (.n n ((x2.old p o g nd.nt).trans nf) (x2.g _ _ g) (nd.mono x2.f) x1.g g r2)⟩
end
def setL : L2.St → List Nat → List V → L2.St
  | σ, i :: is, v :: vs => setL (σ.set i (some v)) is vs
  | σ, _, _ => σ
theorem Rel.setAll {c : Cfg} {K : PySem.W.Frag} {F0 G0 F : Hp} {H : Hp} {st : c.I.S} : ∀ {is : List Nat} {G1 : Hp} {ms : List Bool} {vs : List V} {ds : List PyData} {σ : L2.St} {env : Env}, Rel c K F0 G0 F σ H env st → Mx K F (c.mask H) G1 ms vs ds → is.map c.mu = ms → (∀ i ∈ is, c.free i) → Same G0 G1 →
    (∀ j e q, c.mu j = true → env[j]? = some (some e) → σ[j]? = some (some (.ref q)) → G1 q ≠ none) → Rel c K F0 G0 F (setL σ is vs) H (setE env is ds) st
  | [], _, _, _, _, _, _, R, h, e, _, _, _ => by cases h <;> first | exact R | (cases e)
  | i :: is, G1, _, _, _, σ, env, R, .v r h, e, hf, g, ap => by
    rw [List.map_cons] at e
    obtain ⟨e1, e2⟩ := List.cons.inj e
    refine Rel.setAll (is := is) (R.setV e1 (hf i (List.mem_cons_self ..)) r) h e2 (fun j hj => hf j (List.mem_cons_of_mem _ hj)) g fun j e q hm h1 h2 => ?_
    rcases get_set h1 with ⟨rfl, _, _⟩ | ⟨nj, h1⟩
    · rw [e1] at hm; cases hm
    · rw [List.getElem?_set_ne (fun z => nj z.symm)] at h2
      exact ap j e q hm h1 h2
  | i :: is, G1, _, _, _, σ, env, R, .n n nf gp nd s e0 h, e, hf, g, ap => by
    rw [List.map_cons] at e
    obtain ⟨e1, e2⟩ := List.cons.inj e
    have e1 : c.mu i = true := e1
    refine Rel.setAll (is := is) (R.setO e1 (hf i (List.mem_cons_self ..)) (g.free n) nf gp nd fun j e nj hm h1 h2 => ap j e _ hm h1 h2 n) h e2 (fun j hj => hf j (List.mem_cons_of_mem _ hj)) (g.trans s) fun j e q hm h1 h2 => ?_
    rcases get_set h1 with ⟨ej, _, hl⟩ | ⟨nj, h1⟩
    · rw [ej, List.getElem?_set_self (by rw [← R.len]; exact hl)] at h2
      cases h2
      rw [e0]; exact fun z => by cases z
    · rw [List.getElem?_set_ne (fun z => nj z.symm)] at h2
      have := ap j e q hm h1 h2
      intro z
      exact this (s.free z)
theorem Rel.setAll0 {c : Cfg} {K : PySem.W.Frag} {F0 G0 F F' : Hp} {H H' : Hp} {st st' : c.I.S} {is : List Nat} {ms : List Bool} {vs : List V} {ds : List PyData} {σ : L2.St} {env : Env} (R : Rel c K F0 G0 F σ H env st) (x : Ext F (c.mask H) F' (c.mask H')) (ok : c.I.ok st' H') (h : Mx K F' (c.mask H') (c.mask H) ms vs ds)
    (e : is.map c.mu = ms) (hf : ∀ i ∈ is, c.free i) : Rel c K F0 G0 F' (setL σ is vs) H' (setE env is ds) st' :=
  Rel.setAll (R.step x ok) h e hf R.ext.g fun j e q hm h1 h2 => by
    obtain ⟨p, o, hv, _, _, g, _⟩ := R.own hm h1
    rw [hv] at h2
    cases h2
    rw [g]; exact fun z => by cases z
theorem par_inv {S : Type} {is : List Nat} {f : DenA S} {env env' : Env} {st st' : S} {fl : Fl} (h : sPar is f env st = some ((fl, env'), st')) : ∃ ds, f env st = some (ds, st') ∧ ds.length = is.length ∧ fl = .nx ∧ env' = setE env is ds := by
  unfold sPar at h
  obtain ⟨⟨ds, s1⟩, h1, h2⟩ := Option.bind_eq_some_iff.mp h
  dsimp only at h2
  split at h2
  · rename_i hl; cases h2; exact ⟨ds, h1, hl, rfl, rfl⟩
  · cases h2
section
variable {X : Cx} {c : Cfg} {ms : List Bool} {fs : DenA c.I.S} {pos : Pos}
theorem pd_par2 {i j : Nat} {x y : Str} {a b : Expr} {px py pt : Pos} {kt k2 pt2} (hc : X.calm = true) (hN : X.N.Nodup) (hi : X.N[i]? = some x) (hj : X.N[j]? = some y) (hij : i ≠ j)
    (hx : X.env.scope.names.lookup x = some .local) (hy : X.env.scope.names.lookup y = some .local) (ha : PAm X c [a, b] ms fs) (hm : [i, j].map c.mu = ms := by rfl) (hf : ∀ q ∈ [i, j], c.free q := by (intro _ _ _ h; simp [Cfg.fx] at h))
    (hw : swappedStores [.Tuple [.Name x px, .Name y py] kt pt] (.Tuple [a, b] k2 pt2) X.env = pure (some [x, y]) := by rfl)
    (hs : swapsWithSole [.Tuple [.Name x px, .Name y py] kt pt] (.Tuple [a, b] k2 pt2) pos.line X.env = pure false := by rfl) :
    PD X c (.Assign [.Tuple [.Name x px, .Name y py] kt pt] (.Tuple [a, b] k2 pt2) pos) (sPar [i, j] fs) :=
  (ps_par hc hN hi hj hij hx hy ha hw hs).imp fun D σ H ⟨F0, G0, F, env, st, fl, env', st', R, hg, q⟩ => by
    obtain ⟨ds, h1, hl, rfl, rfl⟩ := par_inv hg
    refine ⟨F0, G0, F, env, st, ds, st', R, h1, fun F1 H1 vs x1 ok1 r1 => ?_⟩
    have R1 := R.setAll0 x1 ok1 r1 hm hf
    have hl2 : vs.length = 2 := by rw [r1.length.1, ← r1.length.2]; exact hl
    obtain ⟨v, w, rfl⟩ : ∃ v w, vs = [v, w] := by
      match vs, hl2 with
      | [v, w], _ => exact ⟨v, w, rfl⟩
    exact ⟨v, w, rfl, q F1 _ H1 x1.f R1⟩
theorem pd_par3 {i j l : Nat} {x y z : Str} {a b d : Expr} {px py pz pt : Pos} {kt k2 pt2} (hc : X.calm = true) (hN : X.N.Nodup) (hi : X.N[i]? = some x) (hj : X.N[j]? = some y) (hl : X.N[l]? = some z) (hij : i ≠ j) (hil : i ≠ l) (hjl : j ≠ l)
    (hx : X.env.scope.names.lookup x = some .local) (hy : X.env.scope.names.lookup y = some .local) (hz : X.env.scope.names.lookup z = some .local) (ha : PAm X c [a, b, d] ms fs) (hm : [i, j, l].map c.mu = ms := by rfl) (hf : ∀ q ∈ [i, j, l], c.free q := by (intro _ _ _ h; simp [Cfg.fx] at h))
    (hw : swappedStores [.Tuple [.Name x px, .Name y py, .Name z pz] kt pt] (.Tuple [a, b, d] k2 pt2) X.env = pure (some [x, y, z]) := by rfl)
    (hs : swapsWithSole [.Tuple [.Name x px, .Name y py, .Name z pz] kt pt] (.Tuple [a, b, d] k2 pt2) pos.line X.env = pure false := by rfl) :
    PD X c (.Assign [.Tuple [.Name x px, .Name y py, .Name z pz] kt pt] (.Tuple [a, b, d] k2 pt2) pos) (sPar [i, j, l] fs) :=
  (ps_par3 hc hN hi hj hl hij hil hjl hx hy hz ha hw hs).imp fun D σ H ⟨F0, G0, F, env, st, fl, env', st', R, hg, q⟩ => by
    obtain ⟨ds, h1, hl, rfl, rfl⟩ := par_inv hg
    refine ⟨F0, G0, F, env, st, ds, st', R, h1, fun F1 H1 vs x1 ok1 r1 => ?_⟩
    have R1 := R.setAll0 x1 ok1 r1 hm hf
    have hl2 : vs.length = 3 := by rw [r1.length.1, ← r1.length.2]; exact hl
    obtain ⟨v, w, u, rfl⟩ : ∃ v w u, vs = [v, w, u] := by
      match vs, hl2 with
      | [v, w, u], _ => exact ⟨v, w, u, rfl⟩
    exact ⟨v, w, u, rfl, q F1 _ H1 x1.f R1⟩
def gNs : List Nat → TGs
  | [] => gNil
  | i :: is => gCons (gName i) (gNs is)
theorem gNs_of : ∀ {is : List Nat} {vs : List V} {σ : L2.St} {H : Hp} {Q : L2.St → Hp → Prop}, vs.length = is.length → Q (setL σ is vs) H → gNs is vs σ H Q
  | [], [], _, _, _, _, q => ⟨rfl, q⟩
  | i :: is, v :: vs, σ, H, Q, h, q => ⟨v, vs, rfl, gNs_of (is := is) (Nat.succ.inj h) q⟩
theorem Ext.grow {F G G' : Hp} (fg : Same F G) (s : Same G G') : Ext F G F G' := ⟨Same.refl _, s, fg.trans s, fun _ _ _ _ => rfl⟩
theorem pd_parT {ts es : List Expr} {is : List Nat} {kt : _} {pt : Pos} {k2 pt2} (hc : X.calm = true) (hts : PGs X ts (gNs is)) (ha : PAm X c es ms fs) (hm : is.map c.mu = ms := by rfl) (hf : ∀ q ∈ is, c.free q := by (intro _ _ _ h; simp [Cfg.fx] at h)) (hle : is.length ≤ sizeLine := by decide)
    (hn : (assignEach ts X.env).length = is.length := by rfl) (hst : (assignEach ts X.env).findIdx? (·.1) = none := by rfl)
    (hs : swapsWithSole [.Tuple ts kt pt] (.Tuple es k2 pt2) pos.line X.env = pure false := by rfl) (hw : swappedStores [.Tuple ts kt pt] (.Tuple es k2 pt2) X.env = pure none := by rfl)
    (h1 : (assignEach [.Tuple ts kt pt] X.env).map (·.2) = [assign (.Tuple ts kt pt) X.env] := by rfl) :
    PD X c (.Assign [.Tuple ts kt pt] (.Tuple es k2 pt2) pos) (sPar is fs) :=
  (ps_asg (pe_tup ha) (pg_tup hc hts hn hst) hs hw h1).imp fun D σ H ⟨F0, G0, F, env, st, fl, env', st', R, hg, q⟩ => by
    obtain ⟨ds, h1, hl, rfl, rfl⟩ := par_inv hg
    refine ⟨F0, G0, F, env, st, ds, st', R, h1, fun F1 H1 vs x1 ok1 r1 => ?_⟩
    have hl2 : vs.length = is.length := by rw [r1.length.1, ← r1.length.2]; exact hl
    have R1 := R.setAll0 x1 ok1 r1 hm hf
    refine ⟨by rw [hl2]; exact hle, fun p np => ⟨p, vs, rfl, seqT_inj upd_same, hl2, gNs_of hl2 ?_⟩⟩
    exact q F1 _ _ x1.f (R1.step (Ext.grow R1.fg (mask_mono _ (same_new np))) (c.I.mono (same_new np) ok1))
end

/-! ## what a slot owns is handed back, or kept -/
section
variable {X : Cx} {c : Cfg} {pos : Pos}
theorem pd_retO (i : Nat) {x : Str} {p : Pos} (hm : c.mu i = true := by rfl) (h : PE X (.Name x p) (tVar i) := by exact pv i) : PD X c (.Return (some (.Name x p)) pos) (sRet (dVar i)) := (ps_ret h).imp fun D σ H ⟨F0, G0, F, env, st, fl, env', st', R, hf, q⟩ => by
  unfold sRet at hf
  obtain ⟨⟨d, s1⟩, h1, hf1⟩ := Option.bind_eq_some_iff.mp hf
  cases hf1
  obtain ⟨he, rfl⟩ := var_get h1
  obtain ⟨p, o, hv, g0, f0, gp, hp, nd⟩ := R.own hm he
  have s1 : Same F (upd F p o) := same_new f0
  refine ⟨.ref p, hv, q (upd F p o) H _ ⟨R.ext.f.trans s1, R.ext.g, fun a u e => ?_, fun a u e nt => ?_⟩ R.src ((nd.mono s1).rp upd_same)⟩
  · by_cases ea : a = p
    · subst ea; rw [upd_same] at e; cases e; exact gp
    · rw [upd_ne ea] at e; exact R.fg a u e
  · have ea : a ≠ p := fun z => by subst z; rw [g0] at e; cases e
    rw [upd_ne ea]; exact R.ext.old a u e nt
/-- y = x, x not used any more -/
def sMove {S : Type} (j i : Nat) : DenS S := fun e s => match e[i]? with
  | some (some d) => some ((.nx, (e.set i none).set j (some d)), s)
  | _ => none
theorem pd_move {i j : Nat} {x y : Str} {np yp : Pos} (hN : X.N.Nodup) (hj : X.N[j]? = some y) (hy : Loc X.env.scope y) (hm : c.mu i = true := by rfl) (hmj : c.mu j = false := by rfl) (hfx : c.free j := by (intro _ h; simp [Cfg.fx] at h)) (hx : PE X (.Name x np) (tVar i) := by exact pv i)
    (hs : swapsWith (.Name x np) (some (.Name y yp)) pos.line X.env = pure false := by rfl)
    (hf : X.fn y = true ∨ X.env.scope.names.lookup y = some .local := by first | exact .inl rfl | exact .inr rfl) :
    PD X c (.Assign [.Name y yp] (.Name x np) pos) (sMove j i) :=
  (ps_set hN hj hy hx hs hf).imp fun D σ H ⟨F0, G0, F, env, st, fl, env', st', R, hg, q⟩ => by
    unfold sMove at hg
    split at hg
    · rename_i d he
      cases hg
      obtain ⟨p, o, hv, g0, f0, gp, hp, nd⟩ := R.own hm he
      have s1 : Same F (upd F p o) := same_new f0
      refine ⟨.ref p, hv, q (upd F p o) _ _ s1 ?_⟩
      have R1 : Rel c X.K F0 G0 (upd F p o) σ H (env.set i none) st := by
        refine ⟨⟨R.ext.f.trans s1, R.ext.g, fun a u e => ?_, fun a u e nt => ?_⟩, R.src, R.fx, by rw [List.length_set]; exact R.len, fun k e h => ?_, fun k l q e e' hk hl h1 h2 h3 h4 => ?_⟩
        · by_cases ea : a = p
          · subst ea; rw [upd_same] at e; cases e; exact gp
          · rw [upd_ne ea] at e; exact R.fg a u e
        · have ea : a ≠ p := fun z => by subst z; rw [g0] at e; cases e
          rw [upd_ne ea]; exact R.ext.old a u e nt
        · rcases get_set h with ⟨_, z, _⟩ | ⟨nk, h⟩
          · cases z
          · obtain ⟨w, hw, r⟩ := R.slot k e h
            refine ⟨w, hw, ?_⟩
            split at r
            · rename_i mk
              rw [if_pos mk]
              obtain ⟨p', u, rfl, a, b, g, n⟩ := r
              have np : p' ≠ p := fun z => by subst z; exact nk (R.sep k i p' e d mk hm h he hw hv)
              exact ⟨p', u, rfl, a, by rw [upd_ne np]; exact b, g, n.mono s1⟩
            · rename_i mk
              rw [if_neg mk]; exact r.mono s1
        · rcases get_set h1 with ⟨_, z, _⟩ | ⟨_, h1⟩
          · cases z
          · rcases get_set h2 with ⟨_, z, _⟩ | ⟨_, h2⟩
            · cases z
            · exact R.sep k l q e e' hk hl h1 h2 h3 h4
      exact R1.setV hmj hfx ((nd.mono s1).rp upd_same)
    · cases hg
end
end DL

set_option Elab.async false
set_option linter.all false
set_option maxRecDepth 100000
namespace DL
open PySem PySem.Spec PyProof.Rows L2

/-! ## the script, only walked -/
def scrOk (K : PySem.W.Frag) (a : Addr) (ns : List Int) (fz : Bool) (H : Hp) : Prop :=
  if fz = true then ∃ o, H a = some (.frz o (.lst (ns.map V.int))) else ∀ H : Hp, SqL K H a (ns.map V.int)
theorem scrOk.seq {K : PySem.W.Frag} {a : Addr} {ns : List Int} {fz : Bool} {H : Hp} (h : scrOk K a ns fz H) : SqL K H a (ns.map V.int) := by
  unfold scrOk at h
  cases fz with
  | true => obtain ⟨o, e⟩ := h; exact .inl (.inr ⟨o, e⟩)
  | false => exact h H
def scrI (K : PySem.W.Frag) (a : Addr) (ns : List Int) (fz : Bool) : SrcI := ⟨Unit, fun b => fz && b == a, fun _ H => scrOk K a ns fz H, fun {s H H'} h o => by
    unfold scrOk at o ⊢
    cases fz with
    | true => obtain ⟨o', e⟩ := o; exact ⟨o', by rw [h a (by simp)]; exact e⟩
    | false => exact o, fun {s H b} o h => by
    unfold scrOk at o
    cases fz with
    | true =>
      have e : b = a := by simpa using h
      subst e
      obtain ⟨o', e⟩ := o
      exact ⟨_, e, fun xs z => by cases z⟩
    | false => cases h⟩
def scrC (K : PySem.W.Frag) (a : Addr) (ns : List Int) (fz : Bool) (mu : Nat → Bool) : Cfg := ⟨scrI K a ns fz, mu, [(0, .ref a)]⟩
def dScr (ns : List Int) : DenA Unit := fun _ s => some (ns.map PyData.int, s)
theorem yields_scr {K : PySem.W.Frag} {F G : Hp} {a : Addr} {ns : List Int} {fz : Bool} : Yields K F G (fun H => ∃ s, (scrI K a ns fz).ok s H) (Itl K a) (ns.map PyData.int) := fun F1 H1 i x y z ⟨_, ok⟩ => by
  have hl : SqL K H1 a (ns.map V.int) := scrOk.seq ok
  refine ⟨fun d hd => ?_, fun hi => ⟨_, hl, by rw [List.length_map] at hi ⊢; exact hi⟩⟩
  rw [List.getElem?_map] at hd
  obtain ⟨n, hn, e⟩ := Option.map_eq_some_iff.mp hd
  cases e
  have hv : (ns.map V.int)[i]? = some (.int n) := by rw [List.getElem?_map, hn]; rfl
  refine ⟨⟨_, _, hl, hv⟩, fun w H2 ⟨e, q⟩ => ?_⟩
  subst e
  have := q _ hl
  rw [hv] at this
  cases this
  exact ⟨F1, Ext.refl z, .int n⟩
section
variable {X : Cx} {a : Addr} {ns : List Int} {fz : Bool} {mu : Nat → Bool} {x : Str} {p1 : Pos} {tg : Expr}
theorem piv_scr (hx : PE X (.Name x p1) (tVar 0) := by exact pv 0) : PIv X (scrC X.K a ns fz mu) tg (.Name x p1) (dScr ns) := (pi_list hx).imp fun σ H R ⟨F0, G0, F, env, st, ds, st', Rr, hf, q⟩ => by
  cases hf
  exact ⟨.ref a, Rr.fx 0 _ (List.mem_singleton.mpr rfl), a, rfl, ⟨_, scrOk.seq Rr.src⟩, q F H _ (Ext.refl Rr.fg) Rr.src yields_scr⟩
end
theorem rp_ints {K : PySem.W.Frag} {F : Hp} : ∀ {xs : List V} {cs : List Int}, RpAll K F xs (cs.map PyData.int) → xs = cs.map V.int
  | _, [], h => by cases h; rfl
  | _, c :: cs, h => by
    cases h with
    | cons a b => cases a; rw [rp_ints b]; rfl

/-! ## the def that makes the source -/
def spScr (K : PySem.W.Frag) : SpG := fun vs H Q => ∃ a ns fz, vs = [.ref a] ∧ scrOk K a ns fz H ∧ ns.length ≤ 63 ∧ ∀ H' s0 c0 st, srcOk s0 c0 st H' → Q (.ref s0) H'
def sScr1 : DenS Unit := sSet 1 (dC (.int 11))
def sScr2 (ns : List Int) : DenS Unit := sFor (dScr ns) (bNm 2) (sSet 1 (dBin dMod (dApp dInt (dACons (dBin dAdd (dBin dAdd (dBin dMul (dVar 1) (dC (.int 69069))) (dBin dMul (dVar 2) (dC (.int 31)))) (dC (.int 5))) dANil)) (dC (.int 2147483629))))
def dScrC (ns : List Int) : Den Unit := dUn revLD (dComp [2] (dScr ns) (bNm 2) dTrue (dApp dAbs (dACons (dVar 2) dANil)))
theorem scr2_den : ∀ (ns : List Int) (m : Int) (v : Option PyData) (u : Option PyData), ∃ m' v', sForL (bNm 2) (sSet 1 (dBin dMod (dApp dInt (dACons (dBin dAdd (dBin dAdd (dBin dMul (dVar 1) (dC (.int 69069))) (dBin dMul (dVar 2) (dC (.int 31)))) (dC (.int 5))) dANil)) (dC (.int 2147483629)))) (ns.map PyData.int) [u, some (.int m), v] () = some ((.nx, [u, some (.int m'), v']), ())
  | [], m, v, u => ⟨m, v, rfl⟩
  | n :: ns, m, v, u => by
    simp only [List.map_cons, sForL, bNm, sSet, dBin, dApp, dACons, dANil, dVar, dC, dMul, dAdd, dInt, dMod, Option.bind_some, Option.map_some, List.set_cons_succ, List.set_cons_zero, List.getElem?_cons_succ, List.getElem?_cons_zero, show small64 69069 = true from by decide, show small64 31 = true from by decide, Bool.or_true, if_true, show (2147483629 : Int) ≠ 0 from by decide, ne_eq, not_false_eq_true]
    exact scr2_den ns _ _ u
theorem scrC_den : ∀ (ns : List Int) (e : Option PyData) (u v : Option PyData), compL [2] (bNm 2) dTrue (dApp dAbs (dACons (dVar 2) dANil)) (ns.map PyData.int) [u, v, e] () = some ((ns.map fun n => if n < 0 then -n else n).map PyData.int, ())
  | [], e, u, v => rfl
  | n :: ns, e, u, v => by
    have ih := scrC_den ns e u v
    simp only [List.map_cons, compL, wipeE, bNm, dTrue, dApp, dACons, dANil, dVar, dAbs, Option.bind_some, Option.map_some, List.set_cons_succ, List.set_cons_zero, List.getElem?_cons_succ, List.getElem?_cons_zero, if_true] at ih ⊢
    rw [ih]
    rfl
theorem rel_scr {K : PySem.W.Frag} {a : Addr} {ns : List Int} {fz : Bool} {mu : Nat → Bool} {H : Hp} (ok : scrOk K a ns fz H) (m : Nat) :
    Rel (scrC K a ns fz mu) K (fun _ => none) ((scrI K a ns fz).mask H) (fun _ => none) (some (.ref a) :: List.replicate m none) H (List.replicate (m + 1) none) () := by
  refine ⟨⟨Same.refl _, Same.refl _, fun _ _ z => (by cases z), fun _ _ _ _ => rfl⟩, ok, fun i v h => ?_, by simp, fun i d h => ?_, fun i j p d e hi hj h1 _ _ _ => ?_⟩
  · cases List.mem_singleton.mp h; rfl
  · rw [List.getElem?_replicate] at h; split at h <;> cases h
  · rw [List.getElem?_replicate] at h1; split at h1 <;> cases h1
theorem fnG_source {P : Program} {w : World} {K : PySem.W.Frag} {mg : Str → Option Value} {base : Heap} {k : Nat} {f : Addr} {fd : FuncData} {x qual : Str} {st s1 s2 : Stmt} {e1 : Expr} {k1 k2 k3 k4 k5 k6 : Nat} {p1 p2 p3 p4 p5 p6 p7 p8 p9 : Pos}
    (F : Fun K x qual st f fd) (S : FnScope ["script", "mixed", "cell"] ["script"] (defScope st))
    (hb : defBody st = [s1, s2, .Return (some (.Dict [some (.Constant (.str "cells") k1 p1), some (.Constant (.str "left") k2 p2), some (.Constant (.str "mixed") k3 p3), some (.Constant (.str "turn") k4 p4)] [e1, .Constant (.int 1) k5 p5, .Name "mixed" p6, .Constant (.int 0) k6 p7] p8)) p9])
    (h : ∀ (cdv : Value) (A : Around) (outer : List PySem.Env) (s : Shared) (H : Hp) (a : Addr) (ns : List Int) (fz : Bool), let X := (cxOf CX0 P w K mg base ["script", "mixed", "cell"] qual (defScope st) f cdv A outer s H E0).nox
      Calm X k → PD X (scrC K a ns fz fun _ => false) s1 sScr1 ∧ PD X (scrC K a ns fz fun _ => false) s2 (sScr2 ns) ∧ PN X (scrC K a ns fz fun _ => false) e1 (dScrC ns) ∧ PE X (.Name "mixed" p6) (tVar 1)) :
    FnG P w K mg base (k + 1) f fd ["script"] (spScr K) := by
  refine FnG.of F S (fun vs H Q ⟨a, ns, fz, e, _⟩ => by rw [e]; rfl) fun cdv A outer s H vs Q hgd hr ⟨a, ns, fz, e, ok, hl, q⟩ => ?_
  subst e
  obtain ⟨h1, h2, h3, h4⟩ := h cdv A outer s H a ns fz ⟨hr, hgd⟩
  rw [hb]
  refine ⟨_, (pss_cons h1 (pss_cons h2 (pss_one (ps_ret (pe_disp (pps_cons pe_str h3 (pps_cons pe_str pe_int (pps_cons pe_str h4 (pps_cons pe_str pe_int pps_nil)))) rfl rfl (by simp) (by simp)))))).nox, ?_⟩
  refine ⟨_, _, _, _, (), .nx, [none, some (.int 11), none], (), rel_scr ok 2, rfl, fun F1 σ1 H1 x1 R1 => ?_⟩
  obtain ⟨m, v, hm⟩ := scr2_den ns 11 none none
  refine ⟨_, _, _, _, (), .nx, _, (), R1, (show sScr2 ns [none, some (.int 11), none] () = _ from hm), fun F2 σ2 H2 x2 R2 => ?_⟩
  intro p np
  have s12 := same_new (o := HO.dK []) np
  have R3 : Rel (scrC K a ns fz fun _ => false) K _ _ F2 σ2 (upd H2 p (.dK [])) _ () := R2.step (Ext.grow R2.fg (mask_mono _ s12)) ((scrI K a ns fz).mono s12 R2.src)
  have hc : dScrC ns [none, some (.int m), v] () = some (.list ((ns.map fun n => if n < 0 then -n else n).map PyData.int).reverse, ()) := by
    unfold dScrC dUn dComp dScr
    simp only [Option.bind_some, scrC_den]
    rw [if_pos (by simp only [List.length_map]; rw [sizeLine_eq]; omega)]
    rfl
  refine ⟨_, _, F2, _, (), _, (), R3, hc, fun F4 H4 w x4 ok4 nw => ?_⟩
  have R4 := R3.step x4 ok4
  obtain ⟨c0, o, rfl, nc, _, hc0, nd⟩ := nw
  obtain ⟨xs, rfl, rx⟩ := node_list nd
  rw [← List.map_reverse] at rx
  have ex := rp_ints rx
  subst ex
  have hpid : (scrI K a ns fz).hid p = false := R2.hidF np
  have m3 : (scrI K a ns fz).mask (upd H2 p (.dK [])) p = some (.dK []) := by rw [mask_of _ hpid]; exact upd_same
  have hp4 : H4 p = some (.dK []) := mask_le _ _ _ _ (x4.g _ _ m3)
  have hc4 : H4 c0 = some (.lst (((ns.map fun n => if n < 0 then -n else n).reverse).map V.int)) := mask_le _ _ _ _ hc0
  have cp : c0 ≠ p := fun z => by rw [z, hp4] at hc4; cases hc4
  obtain ⟨vm, hvm, rm⟩ := R4.slot 1 (.int m) rfl
  cases rm
  refine ⟨.int m, hvm, hp4, [(.inr "cells", .ref c0), (.inr "left", .int 1), (.inr "mixed", .int m), (.inr "turn", .int 0)], rfl, by simp, ?_⟩
  refine q _ p c0 ⟨(ns.map fun n => if n < 0 then -n else n).reverse, 1, m, 0, by simpa using hl⟩ ⟨?_, ?_⟩
  · rw [upd_same]; rfl
  · rw [upd_ne cp]; exact hc4

/-! ## the law -/
def spLaw (K : PySem.W.Frag) : SpG := fun vs H Q => ∃ a ns fz, vs = [.ref a] ∧ scrOk K a ns fz H ∧ ns.length ≤ 63 ∧ ∀ H', Q (.bl true) H'
theorem relL_start {K : PySem.W.Frag} {s0 c0 : Addr} {mu : Nat → Bool} {H : Hp} {v0 : Option V} {m : Nat} {st : Src} (ok : srcOk s0 c0 st H) :
    Rel (srcC s0 c0 1 mu) K (fun _ => none) ((srcI s0 c0).mask H) (fun _ => none) (v0 :: some (.ref s0) :: List.replicate m none) H (List.replicate (m + 2) none) st := by
  refine ⟨⟨Same.refl _, Same.refl _, fun _ _ z => (by cases z), fun _ _ _ _ => rfl⟩, ok, fun i v h => ?_, by simp, fun i d h => ?_, fun i j p d e hi hj h1 _ _ _ => ?_⟩
  · cases List.mem_singleton.mp h; rfl
  · rw [List.getElem?_replicate] at h; split at h <;> cases h
  · rw [List.getElem?_replicate] at h1; split at h1 <;> cases h1
theorem fnG_law {P : Program} {w : World} {K : PySem.W.Frag} {mg : Str → Option Value} {base : Heap} {k : Nat} {f : Addr} {fd : FuncData} {x qual y : Str} {N : List Str} {st : Stmt} {rest : List Stmt} {p1 p2 p3 p4 p5 : Pos} {g : DenS Src} (mu : Nat → Bool)
    (F : Fun K x qual st f fd) (S : FnScope ("script" :: "source" :: N) ["script"] (defScope st)) (D : DefG P w K mg base k y (spScr K))
    (hb : defBody st = .Assign [.Name "source" p1] (.Call (.Name y p2) [.Name "script" p3] [] p4) p5 :: rest)
    (hden : ∀ s : Src, ∃ e s', g (List.replicate (N.length + 2) none) s = some ((.ret (.bool true), e), s'))
    (h : ∀ (cdv : Value) (A : Around) (outer : List PySem.Env) (s : Shared) (H : Hp), let X := (cxOf CX0 P w K mg base ("script" :: "source" :: N) qual (defScope st) f cdv A outer s H E0).nox
      Calm X k → PS X (.Assign [.Name "source" p1] (.Call (.Name y p2) [.Name "script" p3] [] p4) p5) (tAsg (tCallG (spScr K) (tCons (tVar 0) tNil)) (gName 1)) ∧ ∀ s0 c0, PDs X (srcC s0 c0 1 mu) rest g) :
    FnG P w K mg base (k + 1) f fd ["script"] (spLaw K) := by
  refine FnG.of F S (fun vs H Q ⟨a, ns, fz, e, _⟩ => by rw [e]; rfl) fun cdv A outer s H vs Q hgd hr ⟨a, ns, fz, e, ok, hl, q⟩ => ?_
  subst e
  obtain ⟨h1, h2⟩ := h cdv A outer s H ⟨hr, hgd⟩
  rw [hb]
  have h3 : PSs (cxOf CX0 P w K mg base ("script" :: "source" :: N) qual (defScope st) f cdv A outer s H E0).nox rest (fun D σ H => ∃ s0 c0, tS K (srcC s0 c0 1 mu) g D σ H) :=
    ⟨fun pins s σ H Q I ⟨s0, c0, z⟩ => (h2 s0 c0).run pins s σ H Q I z⟩
  refine ⟨_, (pss_cons h1 h3).nox, ?_⟩
  refine ⟨.ref a, rfl, a, ns, fz, rfl, ok, hl, fun H1 s0 c0 st1 ok1 => ⟨s0, c0, ?_⟩⟩
  obtain ⟨e, s', he⟩ := hden st1
  exact ⟨_, _, _, _, st1, _, e, s', relL_start ok1, he, fun F' H' v _ _ r => by cases r; exact q H'⟩
end DL

set_option Elab.async false
set_option linter.all false
set_option maxRecDepth 100000
namespace DL
open PySem PySem.Spec PyProof.Rows L2

/-! ## the law's call -/
/-- what the layer tracks at the call: the script, or nothing -/
structure Start (P : Program) (w : World) (K : PySem.W.Frag) (h : Heap) (a : Addr) (ns : List Int) (H : Hp) : Prop where
  scr : ∃ fz, scrOk K a ns fz H
  ok : HOk P w H h
  at_ : ∀ b u, H b = some u → b = a ∧ K.lookup a = none ∧ ∃ o xs, u = .frz o (.lst xs)
theorem start_of {P : Program} {w : World} {K : PySem.W.Frag} {h : Heap} {a : Addr} {ns : List Int} {vs : List Value} (X : K.In h) (ha : h.get? a = some { cls := .type "list", data := .seq vs.toArray }) (hi : IntsAre vs ns) (hl : ns.length ≤ sizeLine) : ∃ H, Start P w K h a ns H := by
  have rv := vals_ints hi
  have lv := hi.length
  rcases hk : K.lookup a with _ | o
  · let H : Hp := fun b => if b = a then some (.frz { cls := .type "list", data := .seq vs.toArray } (.lst (ns.map V.int))) else none
    have only : ∀ b u, H b = some u → b = a ∧ u = .frz { cls := .type "list", data := .seq vs.toArray } (.lst (ns.map V.int)) := fun b u z => by
      by_cases e : b = a
      · exact ⟨e, (Option.some.inj ((if_pos e).symm.trans z)).symm⟩
      · cases (if_neg e).symm.trans z
    refine ⟨H, ⟨⟨true, by unfold scrOk; exact ⟨_, if_pos rfl⟩⟩, fun b u z => ?_, fun b u z => ?_⟩⟩
    · obtain ⟨rfl, rfl⟩ := only b u z
      exact ⟨ha, by rw [List.length_map]; exact hl, vs, _, rv, ha⟩
    · obtain ⟨e, rfl⟩ := only b u z
      exact ⟨e, hk, _, _, rfl⟩
  · have e := (X a o hk).symm.trans ha
    cases e
    exact ⟨fun _ => none, ⟨⟨false, by
      unfold scrOk
      exact fun H => .inr ⟨_, vs.toArray, _, hk, rfl, rfl, rfl, by rw [List.size_toArray, lv]; exact hl, by simpa using rv⟩⟩, fun b u z => (by cases z), fun b u z => (by cases z)⟩⟩
theorem Start.free {P : Program} {w : World} {K : PySem.W.Frag} {h : Heap} {a : Addr} {ns : List Int} {H : Hp} (S : Start P w K h a ns H) {b : Addr} (n : b ≠ a ∨ K.lookup a ≠ none) : H b = none := by
  cases q : H b with
  | none => rfl
  | some u =>
    obtain ⟨e, l, _⟩ := S.at_ b u q
    rcases n with n | n
    · exact absurd e n
    · exact absurd l n
theorem law_callG {P : Program} {w : World} {K : PySem.W.Frag} {mg mb : Str → Option Value} {k : Nat} {fa a : Addr} {fd : FuncData} {x : Str} {s : Shared} {vs : List Value} {ns : List Int}
    (X : K.In s.heap) (G : s.heap.Ns mainGlobals mg) (B : s.heap.Ns builtinsNs mb) (BB : ∀ x : Str, x ≠ "__name__" → mb x = bootBuiltins x) (L : s.heap.NoLimit) (g0 : s.gens = #[])
    (ha : s.heap.get? a = some { cls := .type "list", data := .seq vs.toArray }) (hi : IntsAre vs ns) (hl : ns.length ≤ 63) (hr : Room k callerA)
    (F : ∀ base : Heap, K.In base → base.Ns mainGlobals mg → FnG P w K mg base k fa fd [x] (spLaw K)) (bd : ∀ (s : Shared) (u : Value), BindsTo s fd ⟨[u], []⟩ [(x, u)]) :
    codeAny (model P w) callerA (.call (.ref fa) ⟨[.ref a], []⟩) (fun r s' => r = .ok (.ret (.bool true)) ∧ OldK s.heap s'.heap ∧ s'.os = s.os ∧ AllBare s'.gens) s := by
  obtain ⟨H, S⟩ := start_of (P := P) (w := w) X ha hi (Nat.le_trans hl (by rw [sizeLine_eq]; omega))
  have noD : ∀ {b : Addr} {o : Obj} {es : Array DictEntry} {ep : Nat}, s.heap.get? b = some o → o.data = .dict es ep → H b = none := fun {b o es ep} e d => S.free (.inl fun z => by
    subst z
    cases e.symm.trans ha
    have d' : Data.seq vs.toArray _ = Data.dict es ep := d
    cases d')
  have ns2 : ∀ {b : Addr} {m : Str → Option Value}, s.heap.Ns b m → (hidT s.heap H).Ns b m := fun {b m} ⟨o, es, ep, e, d, r⟩ => ⟨o, es, ep, hidT_get e (noD e d), d, r⟩
  have XB : K.In (hidT s.heap H) := fun b o e => hidT_get (X b o e) (S.free (by
    by_cases q : b = a
    · subst q; exact .inr (by rw [e]; simp)
    · exact .inl q))
  have M : Mod K mg (hidT s.heap H) := ⟨XB, ns2 G, ⟨mb, ns2 B, BB⟩, let ⟨mc, h1, h2⟩ := L; ⟨mc, ns2 h1, h2⟩⟩
  have E : Env0 P w K mg (hidT s.heap H) callerA [] s H := ⟨rfl, M, fun b o e => of_hidT e, Nat.le_of_eq (hidT_size _ _), trivial, fun b hb => (List.not_mem_nil hb).elim, S.ok, .of_eq g0⟩
  obtain ⟨fz, sc⟩ := S.scr
  refine codeAny_mono ((F _ XB (ns2 G)).run callerA [] s H ⟨[.ref a], []⟩ [.ref a] [.ref a] (fun v _ => v = .bl true) rfl hr E (bd s (.ref a)) (.cons rfl .nil) ⟨a, ns, fz, rfl, sc, hl, fun _ => rfl⟩) fun r s' h => ?_
  rcases r with e | fl
  · exact (h : False).elim
  · cases fl with
    | next => exact False.elim h
    | brk => exact False.elim h
    | cont => exact False.elim h
    | ret u =>
      obtain ⟨v, H', o, bare, un, ok', rv, q⟩ := h
      have q' : v = .bl true := q
      subst q'
      obtain rfl : u = Value.bool true := rv
      refine ⟨rfl, OldK.of_keep fun b ob e => ?_, o, bare⟩
      cases q : H b with
      | none => exact un.keep b ob e q (fun z => (List.not_mem_nil z).elim) (by simp)
      | some u =>
        obtain ⟨_, _, o', xs, rfl⟩ := S.at_ b u q
        have e1 := (S.ok b _ q).1
        have e2 := (ok' b _ (un.frzs b o' _ q)).1
        exact e2.trans (e1.symm.trans e)
theorem walk_ofG {l : PySem.W.OpenLaw} {k : Nat} {q : Program} {loose : List Str} {XP : (Str → Option Value) → Heap → Prop} {YP : World → Heap → Prop} {d : DefRec} {K : Params → PySem.W.Frag} {x : Str}
    (hn : l.most = some 63) (hdf : d.params.defaults = []) (hr : Room k callerA) (hY : ∀ (w : World) (h : Heap), YP w h → (K w.params).In h)
    (F : ∀ (w : World) (mg : Str → Option Value) (fa : Addr) (h : Heap), (K w.params).In h → h.Ns mainGlobals mg → mg d.name = some (.ref fa) →
      ∃ fd : FuncData, (∀ (s : Shared) (u : Value), BindsTo s fd ⟨[u], []⟩ [(x, u)]) ∧ ∀ base : Heap, (K w.params).In base → base.Ns mainGlobals mg → FnG l.prog w (K w.params) mg base k fa fd [x] (spLaw (K w.params))) :
    PySem.W.WalkO q loose XP YP l.row.toRowW d [] (fun f vs => PySem.call f vs) := by
  refine Att.attach_call hn hdf fun w s0 s1 mg mb fa o pm cd doc a vs ns G Y ho hd hcd hmg hobj hints hlen hg => ?_
  obtain ⟨fd, hb, hF⟩ := F w mg fa _ (hY w _ Y) G.T.g hmg
  exact law_callG (hY w _ Y) G.T.g G.T.b G.T.builtins G.T.nolimit hg hobj hints hlen hr hF hb
/-- a def by its name, from its object -/
theorem DefG.ofF {P : Program} {w : World} {K : PySem.W.Frag} {mg : Str → Option Value} {base : Heap} {k : Nat} {x qual : Str} {sp : SpG} {st : Stmt} {f : Addr} {fd : FuncData} {ps : List Str} (F : Fun K x qual st f fd) (h : FnG P w K mg base k f fd ps sp) (hm : mg x = some (.ref f))
    (hb : ∀ (kV doc pm : Value) (an : Option Addr) (cdv ct : Value) (us : List Value), us.length = ps.length → bindArgs (PySem.W.fnOf x qual (defArgs st) (defBody st) (defScope st) .none kV doc pm an cdv ct) ⟨us, []⟩ = pure (ps.zip us)) : DefG P w K mg base k x sp :=
  ⟨⟨f, fd, ps, h, hm, F.kp, F.binds hb⟩⟩
theorem Calm.blk {X : Cx} {k : Nat} (h : Calm X k) {s : Shared} {H : Hp} {scope : Scope} {cenv : PySem.Env} {fp : List Addr} : Calm (X.blk s H scope cenv fp) k := ⟨h.room, h.gd⟩
end DL

set_option Elab.async false
set_option linter.all false
set_option maxRecDepth 100000
namespace DL
open PySem PySem.Spec PyProof.Rows L2
theorem pfree {mu : Nat → Bool} {i : Nat} : (pcfg mu).free i := fun _ h => by cases h
theorem pfreeL {mu : Nat → Bool} {L : List Nat} : ∀ i ∈ L, (pcfg mu).free i := fun _ _ => pfree
theorem sfree {s0 c0 : Addr} {j : Nat} {mu : Nat → Bool} {i : Nat} (h : i ≠ j) : (srcC s0 c0 j mu).free i := fun _ z => by cases List.mem_singleton.mp z; exact h rfl
theorem sfreeL {s0 c0 : Addr} {j : Nat} {mu : Nat → Bool} {L : List Nat} (h : j ∉ L) : ∀ i ∈ L, (srcC s0 c0 j mu).free i := fun i hi => sfree fun e => by subst e; exact h hi
theorem qfree {K : PySem.W.Frag} {a : Addr} {ns : List Int} {fz : Bool} {mu : Nat → Bool} {i : Nat} (h : i ≠ 0) : (scrC K a ns fz mu).free i := fun _ z => by cases List.mem_singleton.mp z; exact h rfl
theorem qfreeL {K : PySem.W.Frag} {a : Addr} {ns : List Int} {fz : Bool} {mu : Nat → Bool} {L : List Nat} (h : 0 ∉ L) : ∀ i ∈ L, (scrC K a ns fz mu).free i := fun i hi => qfree fun e => by subst e; exact h hi
end DL

set_option Elab.async false
set_option linter.all false
set_option maxRecDepth 100000
namespace DL
open PySem PySem.Spec PyProof.Rows L2

/-! ## dict(pairs) -/
def mergeT (kvs more : List (List Key × V)) : List (List Key × V) := more.foldl (fun acc kv => putK acc kv.1 kv.2) kvs
theorem KT_merge {H : Hp} : ∀ {more : List (List Key × V)} {rs : List (List Key × Addr × Value)} {kvs : List (List Key × V)} {vs : List (List Key × Addr × Value)}, KT H more rs → KT H kvs vs → KT H (mergeT kvs more) (storedAllH vs rs) := by
  intro more rs kvs vs r
  unfold KT at r
  induction r generalizing kvs vs with
  | nil => intro q; exact q
  | @cons p q ps qs h t ih =>
    intro r0
    obtain ⟨h1, h2, h3⟩ := h
    have := r0.put p.1 (b := q.2.1) h2 h3
    rw [h1] at this
    have e : KT H (putK kvs p.1 p.2) (storedH vs q.1 q.2.1 q.2.2) := by rw [h1]; exact this
    exact ih e
theorem length_mergeT : ∀ (more kvs : List (List Key × V)), (mergeT kvs more).length ≤ kvs.length + more.length
  | [], kvs => Nat.le_refl _
  | p :: r, kvs => by
    have h1 := length_mergeT r (putK kvs p.1 p.2)
    have h2 := length_putK kvs p.1 p.2
    show (mergeT (putK kvs p.1 p.2) r).length ≤ _
    rw [List.length_cons]; omega
/-- an address of a pair, its key, the key's address, the value -/
structure PT3 where
  k : List Key
  b : Addr
  v : V
theorem tpairs_of {X : Cx} {pins : List (Addr × Obj)} {σ : L2.St} {H : Hp} {s : Shared} (I : Inv X pins σ H s) : ∀ {ps : List Addr} {qs : List PT3}, Paired (fun p q => SqT X.K H p [.ref q.b, q.v] ∧ H q.b = some (.tup (q.k.map kV))) ps qs →
    ∃ prs : List (List Key × Addr × Value), KT H (qs.map fun q => (q.k, q.v)) prs ∧ prs.length = ps.length ∧ ∀ (j : Nat) (q : List Key × Addr × Value), prs[j]? = some q → ∃ b : Addr, ps[j]? = some b ∧ IsTup s.heap b #[.ref q.2.1, q.2.2]
  | _, _, .nil => ⟨[], .nil, rfl, fun j q e => by simp at e⟩
  | _, _, .cons (a := p) (b := kv) h t => by
    obtain ⟨prs, r, hl, hp⟩ := tpairs_of I t
    obtain ⟨its, rv, ht, _⟩ := I.tuple h.1
    obtain ⟨u, y, ei, ru, ry⟩ := vals2 rv
    subst ei
    cases (show u = Value.ref kv.b from ru)
    refine ⟨(kv.k, kv.b, y) :: prs, .cons ⟨rfl, h.2, ry⟩ r, by rw [List.length_cons, List.length_cons, hl], fun j q e => ?_⟩
    cases j with
    | zero =>
      have e' : (kv.k, kv.b, y) = q := Option.some.inj e
      subst e'
      exact ⟨p, rfl, ht⟩
    | succ j =>
      obtain ⟨b, e1, e2⟩ := hp j q (by simpa using e)
      exact ⟨b, by simpa using e1, e2⟩
theorem call_dictPT {X : Cx} {k : Nat} (hc : Calm X k) (hcalm : X.calm = true) : CallR X (.type "dict") (fun xs H Q => ∃ (a : Addr) (ps : List Addr) (qs : List PT3), xs = [.ref a] ∧ SqL X.K H a (ps.map V.ref) ∧ Paired (fun p q => SqT X.K H p [.ref q.b, q.v] ∧ H q.b = some (.tup (q.k.map kV))) ps qs ∧
    ∀ p, H p = none → Q (.ref p) (upd H p (.dT (mergeT [] (qs.map fun q => (q.k, q.v)))))) := by
  intro pins s σ H xs us Q I r q
  obtain ⟨a, ps, qs, ex, hq, hp, q⟩ := q
  subst ex
  obtain ⟨u, eu, rx⟩ := vals1 r
  subst eu
  cases rx
  obtain ⟨its, rv, pl, hz⟩ := I.list hq
  have ei := refs_at rv
  subst ei
  rw [List.length_map] at hz
  obtain ⟨prs, rel, hl, hpr⟩ := tpairs_of I hp
  obtain ⟨o, n, ho, hc1, hd, hdat⟩ := pl
  have hpl : (prs.map fun q => (Value.ref q.2.1, q.2.2)).length = ps.length := by rw [List.length_map, hl]
  have hun : X.A.units + 2 < cLine := Nat.lt_of_le_of_lt (by omega) (units65 hc)
  have all : ∀ {l : List (List Key × V)} {m : List (List Key × Addr × Value)}, KT H l m → ∀ x ∈ m, H x.2.1 = some (.tup (x.1.map kV)) := by
    intro l m q
    induction q with
    | nil => intro x hx; exact nomatch hx
    | @cons p q ps qs hq t ih =>
      intro x hx
      rcases List.mem_cons.mp hx with e | hx
      · subst e; rw [← hq.1]; exact hq.2.1
      · exact ih x hx
  refine call_dict_pairsH (knd := tupleKind (mixKind X.prog X.w)) (ps := prs) (PairArg.list a (ps.map Value.ref).toArray (fun j => ps.getD j 0) (prs.map fun q => (Value.ref q.2.1, q.2.2))) (I.ok.hd hcalm) hun ⟨⟨o, n, ho, hc1, hd, hdat⟩, by simp [hl], fun j kk v e => ?_⟩ ⟨by rw [List.length_map], fun i key v e => ?_⟩ (fun h' hk x hx => ?_) (by rw [hpl]; exact hz) fun h' tk hd' hk => ?_
  · rw [List.getElem?_map] at e
    obtain ⟨q', h1, h2⟩ := Option.map_eq_some_iff.mp e
    cases h2
    obtain ⟨b, e1, e2⟩ := hpr j q' h1
    have eg : ps.getD j 0 = b := by rw [List.getD_eq_getElem?_getD, e1]; rfl
    show _ = some (Value.ref (ps.getD j 0)) ∧ PairAt s.heap (ps.getD j 0) _ _
    rw [eg]
    exact ⟨by simp [e1], .inl e2⟩
  · have e' : (prs.map fun q => (Value.ref q.2.1, q.2.2))[i]? = some (key, v) := e
    rw [List.getElem?_map] at e'
    obtain ⟨q', h1, h2⟩ := Option.map_eq_some_iff.mp e'
    cases h2
    exact ⟨q'.1, q'.2.1, h1, rfl⟩
  · obtain ⟨oo, its, nn, g1, g2, g3, g4⟩ := key_of (P := X.prog) (w := X.w) I.hok (all rel x hx)
    exact ⟨oo, its, nn, hk _ _ (Nat.ne_of_lt (Heap.lt_size g1)) (by simp) g1, g2, g3, g4⟩
  · have hm : (s.heap.objs.size == sysModules) = false := beq_eq_false_iff_ne.mpr (Nat.ne_of_gt I.big)
    have rr : KT H (mergeT [] (qs.map fun q => (q.k, q.v))) (storedAllH [] prs) := KT_merge rel .nil
    have hlen : (mergeT [] (qs.map fun q => (q.k, q.v))).length ≤ sizeLine := by
      refine Nat.le_trans (length_mergeT _ []) ?_
      rw [List.length_nil, Nat.zero_add, Paired.length rel, hl]
      exact hz
    have hn := I.hok.fresh (Nat.le_refl s.heap.objs.size)
    obtain ⟨o2, es, ep, j1, j2, j3, j4, _, j6⟩ := hd'
    refine ⟨.ref s.heap.objs.size, upd H s.heap.objs.size (.dT (mergeT [] (qs.map fun q => (q.k, q.v)))), I.laid (t' := tk) (fun b o e => hk b o (by simp) e) (Nat.le_refl _) (show ObjOk X.prog X.w _ _ _ (.dT _) from ⟨hlen, hm, storedAllH [] prs, rr.keeps fun b ys e => ?_, o2, es, ep, j1, j2, j3, j4, j6⟩), rfl, q _ hn⟩
    rw [upd_ne (fun z => by rw [z, hn] at e; cases e)]
    exact e
/-! ## as data -/
def dictG (t : Bool) : List (PyData × PyData) → List PyData → Option (List (PyData × PyData))
  | acc, [] => some acc
  | acc, .tuple [k, v] :: r => if keyOk t k = true then dictG t (dput acc k v) r else none
  | _, _ :: _ => none
def dDict : List PyData → Option PyData
  | [.list ps] => match dictG false [] ps with
    | some ds => some (.dict ds)
    | none => (dictG true [] ps).map (mkDict true)
  | _ => none
theorem dictG_k {K : PySem.W.Frag} {F : Hp} : ∀ {ps : List PyData} {vs : List V} {acc ds : List (PyData × PyData)} {kvs : List (Key × V)}, RpAll K F vs ps → dictG false acc ps = some ds → RpKv K F kvs acc →
    ∃ (as : List Addr) (more : List (Key × V)), vs = as.map V.ref ∧ Paired (fun p kv => F p = some (.tup [kV kv.1, kv.2])) as more ∧ RpKv K F (mergeK kvs more) ds
  | [], _, acc, ds, kvs, r, h, q => by
    cases r
    cases h
    exact ⟨[], [], rfl, .nil, q⟩
  | d :: ps, _, acc, ds, kvs, r, h, q => by
    cases r with
    | cons a b =>
      unfold dictG at h
      split at h
      · rename_i heq; cases heq
      · rename_i k v r' heq
        cases heq
        split at h
        · rename_i hk
          obtain ⟨j, rfl⟩ := keyOk_f hk
          cases a with
          | tup ha ra =>
            cases ra with
            | cons r1 r2 =>
              cases r2 with
              | cons r2 r3 =>
                cases r3
                have ej := rp_key r1
                subst ej
                obtain ⟨as, more, rfl, pa, rr⟩ := dictG_k b h (kv_put q j r2)
                exact ⟨_ :: as, (j, _) :: more, rfl, .cons ha pa, rr⟩
        · cases h
      · cases h
theorem dictG_t {K : PySem.W.Frag} {F : Hp} : ∀ {ps : List PyData} {vs : List V} {acc ds : List (PyData × PyData)} {kvs : List (List Key × V)}, RpAll K F vs ps → dictG true acc ps = some ds → RpTv K F kvs acc →
    ∃ (as : List Addr) (qs : List PT3), vs = as.map V.ref ∧ Paired (fun p q => F p = some (.tup [.ref q.b, q.v]) ∧ F q.b = some (.tup (q.k.map kV))) as qs ∧ RpTv K F (mergeT kvs (qs.map fun q => (q.k, q.v))) ds
  | [], _, acc, ds, kvs, r, h, q => by
    cases r
    cases h
    exact ⟨[], [], rfl, .nil, q⟩
  | d :: ps, _, acc, ds, kvs, r, h, q => by
    cases r with
    | cons a b =>
      unfold dictG at h
      split at h
      · rename_i heq; cases heq
      · rename_i k v r' heq
        cases heq
        split at h
        · rename_i hk
          obtain ⟨js, rfl⟩ := keyOk_t hk
          cases a with
          | tup ha ra =>
            cases ra with
            | cons r1 r2 =>
              cases r2 with
              | cons r2 r3 =>
                cases r3
                cases r1 with
                | tup hb rb =>
                  have ej := rp_keys rb
                  subst ej
                  obtain ⟨as, qs, rfl, pa, rr⟩ := dictG_t b h (tv_put q js r2)
                  exact ⟨_ :: as, ⟨js, _, _⟩ :: qs, rfl, .cons ⟨ha, hb⟩ pa, rr⟩
        · cases h
      · cases h
theorem Paired.mono2 {α β : Type} {R R' : α → β → Prop} {xs : List α} {ys : List β} (h : Paired R xs ys) (f : ∀ a b, R a b → R' a b) : Paired R' xs ys := by
  induction h with
  | nil => exact .nil
  | cons a _ ih => exact .cons (f _ _ a) ih
theorem bn_dict {X : Cx} {k : Nat} (hc : Calm X k) (cm : X.calm = true) (hm : X.mg "dict" = none) : BnOk X "dict" dDict := ⟨.inr ⟨"dict", _, (call_dictP cm).or (call_dictPT hc cm), (fun F H xs as d Q fg sa e q => by
  unfold dDict at e
  split at e
  · rename_i ps
    obtain ⟨x, rfl, s⟩ := sh1 sa
    obtain ⟨a, vs, rfl, ha, r⟩ := s.list fg
    split at e
    · rename_i ds hg
      cases e
      obtain ⟨as, more, rfl, pa, rr⟩ := dictG_k r hg (kvs := []) .nil
      exact .inl ⟨a, as, more, rfl, seqL_inj ha, Paired.mono2 pa fun p kv z => seqT_inj (fg _ _ z), fun p n => q p _ n (.inr (.inl ⟨_, _, rfl, rfl, rr⟩))⟩
    · obtain ⟨ds, hg, e2⟩ := Option.map_eq_some_iff.mp e
      subst e2
      obtain ⟨as, qs, rfl, pa, rr⟩ := dictG_t r hg (kvs := []) .nil
      exact .inr ⟨a, as, qs, rfl, seqL_inj ha, Paired.mono2 pa fun p kv z => ⟨seqT_inj (fg _ _ z.1), fg _ _ z.2⟩, fun p n => q p _ n (.inr (.inr ⟨_, _, rfl, rfl, rr⟩))⟩
  · cases e), hm, by decide +kernel⟩⟩
end DL

set_option Elab.async false
set_option linter.all false
set_option maxRecDepth 100000
namespace DL
open PySem PySem.Spec PyProof.Rows L2

/-! ## enumerate of a tuple -/
theorem meets_enumT (t : Addr) (items : Array Value) : Meets (Builtin.«enumerate.__new__» ⟨[.type "enumerate", .ref t], []⟩) (fun _ R s => s.heap.IsTuple t items ∧
    R (.ok (.ret (.ref (s.heap.push { cls := .type "tuple_iterator", data := .fields #[.ref t, .int 0 0] }).objs.size)))
      { s with heap := (s.heap.push { cls := .type "tuple_iterator", data := .fields #[.ref t, .int 0 0] }).push { cls := .type "enumerate", data := .fields #[.none, .bool false, .ref s.heap.objs.size, rawInt 0, .none, .none] } }) :=
  .of_wp fun prog w A R s h => by
    obtain ⟨hp, g, d, tk, os⟩ := s
    obtain ⟨ht, h⟩ := h
    have hsub := sub_enumerate
    have it1 : ∀ {A' : Around} {E : Value → Shared → Prop} {Q : Value → Shared → Prop}, Q (.ref hp.objs.size) ⟨hp.push { cls := .type "tuple_iterator", data := .fields #[.ref t, .int 0 0] }, g, d, tk, os⟩ → wpAny (model prog w) A' (pyIter (.ref t)) Q E ⟨hp, g, d, tk, os⟩ :=
      fun q => wpAny_pyIter_tuple (s := ⟨hp, g, d, tk, os⟩) ht q
    wp_walk using it1
    refine wpAny_stack_any fun st => wpAny_pure ?_
    split
    · rename_i c _ _ _ _ _
      cases (c == Value.type "enumerate") <;> (wp_walk using it1; exact ⟨_, rfl, h⟩)
    · wp_walk using it1
      exact ⟨_, rfl, h⟩
theorem call_enumT {prog : Program} {w : World} {A : Around} {E : Value → Shared → Prop} {s : Shared} {t : Addr} {items : Array Value} {Q : Value → Shared → Prop} (ht : s.heap.IsTuple t items)
    (h : ∀ h', IsEnum h' (s.heap.objs.size + 1) s.heap.objs.size 0 .none → h'.IsTupleIter s.heap.objs.size t 0 → (∀ b o, s.heap.get? b = some o → h'.get? b = some o) → Q (.ref (s.heap.objs.size + 1)) { s with heap := h' }) :
    wpAny (model prog w) A (call (.type "enumerate") [.ref t]) Q E s := by
  refine callType_new F.called_enumerate (by decide) (F.typeCall_enumerate_1 _) (F.newCall_enumerate_1 _) (fun obj => F.args_object_init_2 obj _) F.entry_enumerate_new (meets_enumT t items) ⟨ht, ?_⟩
  have hz : (s.heap.push { cls := .type "tuple_iterator", data := .fields #[.ref t, .int 0 0] }).objs.size = s.heap.objs.size + 1 := Heap.size_push ..
  show _ ∧ _
  rw [hz]
  have he := Heap.get?_push_size (s.heap.push { cls := .type "tuple_iterator", data := .fields #[.ref t, .int 0 0] }) (o := { cls := .type "enumerate", data := .fields #[.none, .bool false, .ref s.heap.objs.size, rawInt 0, .none, .none] }) rfl
  rw [hz] at he
  exact ⟨⟨_, he, rfl⟩, h _ he ⟨_, Heap.get?_push_of_some _ (Heap.get?_push_size _ rfl), rfl, rfl⟩ fun b o x => Heap.get?_push_of_some _ (Heap.get?_push_of_some _ x)⟩
def IteT (K : PySem.W.Frag) (a : Addr) : It :=
  ⟨fun i H => ∃ (xs : List V) (x : V), SqT K H a xs ∧ xs[i]? = some x, fun i H v H' => ∃ T x, v = .ref T ∧ H T = none ∧ H' = upd H T (.tup [.int (i : Nat), x]) ∧ ∀ xs, SqT K H a xs → xs[i]? = some x, fun i H => ∃ xs : List V, SqT K H a xs ∧ xs.length ≤ i⟩
theorem turn_enumT {P : Program} {w : World} {K : PySem.W.Frag} {elts : List Expr} {kk : Nat} {tpos : Pos} (a e it : Addr) :
    Turn P w K (.Tuple elts kk tpos) (IteT K a) [e, it] e (fun i h => (∃ old, IsEnum h e it ((i : Nat) : Int) old) ∧ h.IsTupleIter it a i ∧ e ≠ it ∧ a ≠ it ∧ a ≠ e) where
  mem := by simp
  obj := fun i h st b hb => by
    obtain ⟨⟨old, he⟩, ⟨o, ho, hc, hd⟩, _⟩ := st
    rcases (by simpa using hb : b = e ∨ b = it) with z | z
    · rw [z]; exact ⟨_, he, fun v q => nomatch q⟩
    · rw [z]; exact ⟨o, ho, fun v q => by rw [hd] at q; cases q⟩
  keep := fun i h h' st k => let ⟨⟨old, he⟩, hi, hne⟩ := st; ⟨⟨old, k e (by simp) _ he⟩, hi.at fun o q => k it (by simp) o q, hne⟩
  item := by
    intro X hP hw hK hc i pins s σ H E I hf st hg
    subst hP hw hK
    obtain ⟨⟨old, he⟩, hit, hne, ha1, ha2⟩ := st
    obtain ⟨xs, x, hq, hx⟩ := hg
    obtain ⟨its, rv, p, hz⟩ := I.tuple hq
    obtain ⟨u, hu, ru⟩ := rv.get hx
    have hel : e < s.heap.objs.size := Heap.lt_size he
    have hil : it < s.heap.objs.size := by obtain ⟨_, q, _⟩ := hit; exact Heap.lt_size q
    have hlt : i < its.toArray.size := by
      rw [List.size_toArray]; exact (List.getElem?_eq_some_iff.mp hu).1
    refine wpAny_pyNext_enum_itemC (Draws.tuple (show X.A.in1.handled = none from I.ok.hd hc) it a ha1 its.toArray) he ⟨hit, show s.heap.IsTuple a its.toArray from p⟩ hlt hne (by simp [hne, Ne.symm ha2]) fun y h' tk hP ho hst' hT hsz hk => ?_
    have hy : y = u := by
      have : its.toArray[i]? = some y := hP
      rw [show its.toArray[i]? = some u by simpa using hu] at this
      exact (Option.some.inj this).symm
    subst hy
    refine ⟨_, rfl, wpAny_letOwnedTupleGo_enum (s := { s with heap := h', toks := tk + 1 }) ho fun h'' he' sb => ?_⟩
    have hT2 : h''.get? s.heap.objs.size = some { cls := .type "tuple", data := .seq #[.int i tk, y] } := (sb.2 _ (Nat.ne_of_gt hel)).trans hT
    have new : ObjOk X.prog X.w (upd H s.heap.objs.size (.tup [.int (i : Nat), x])) h'' s.heap.objs.size (.tup [.int (i : Nat), x]) :=
      ⟨by show 2 ≤ sizeLine; decide, [.int i tk, y], .cons ⟨_, rfl⟩ (.cons ru .nil), ⟨_, hT2, rfl, _, rfl⟩⟩
    have I1 : Inv X pins σ (upd H s.heap.objs.size (.tup [.int (i : Nat), x])) { s with heap := h'', toks := tk + 1 } :=
      I.turnedNew (ch := [e, it]) (fun b ob hb q => (sb.2 b (fun z => hb (by simp [z]))).trans (hk b ob (fun z => hb (by simp [z])) (fun z => hb (by simp [z])) q)) hf (Nat.le_refl _) new
    refine ⟨.ref s.heap.objs.size, _, I1, rfl, ⟨_, x, rfl, I.hok.fresh (Nat.le_refl _), rfl, fun ys hy => by rw [I.tuple_inj hy hq]; exact hx⟩, ⟨⟨y, ?_⟩, hst'.1.at fun o q => (sb.2 it (Ne.symm hne)).trans q, hne, ha1, ha2⟩, fun b hb => ?_⟩
    · rw [show ((i + 1 : Nat) : Int) = (i : Int) + 1 by omega]; exact he'
    · have hb' : b < s.heap.objs.size := by
        rcases (by simpa using hb : b = e ∨ b = it) with z | z
        · rw [z]; exact hel
        · rw [z]; exact hil
      rw [upd_ne (Nat.ne_of_lt hb')]
      exact (hf b hb).1
  done := by
    intro X hP hw hK hc i pins s σ H E I hf st hg
    subst hP hw hK
    obtain ⟨⟨old, he⟩, hit, hne, ha1, ha2⟩ := st
    obtain ⟨xs, hq, hx⟩ := hg
    obtain ⟨its, rv, p, hz⟩ := I.tuple hq
    obtain ⟨f0, f1, f2, f3, f4, f5⟩ := hf it (by simp)
    have hl := rv.length
    have hT : s.TypeIs (.ref e) "enumerate" := ⟨_, he, rfl⟩
    unfold pyNext
    refine wpAny_bind (wpAny_attempt (wpAny_callSpecial?_slot (name := Str.ofString "__next__") hT F.slot_enumerate_next (wpAny_call_entry F.slot_enumerate_next hT F.entry_enumerate_next ?_ (F.args_enumerate_next_1 _))))
    show wpAny _ _ (field (.ref e) 2 >>= _) _ _ _
    refine wpAny_bind (wpAny_field he rfl (x := .ref it) rfl ?_)
    refine wpAny_bind (RZ.nextOf_tuple_end (show X.A.in1.handled = none from I.ok.hd hc) hit (show s.heap.IsTuple a its.toArray from p) (by simp; omega) fun h' x he' hx' => ?_)
    obtain ⟨o, ho, hcl⟩ := hx'
    refine wpAny_bind (wpAny_isInstance (T := "StopIteration") (b := true) ⟨o, ho, hcl⟩ isSubtype_stop ?_)
    exact wpAny_pure ⟨rfl, I.turned (t' := s.toks) (fun b o hb q => he' b o hb q) f0 f1 f3 f4 f5⟩
  self := fun A i s Q E st h => let ⟨⟨_, he⟩, _⟩ := st; wpAny_pyIter_enum he h
def iEnumT (K : PySem.W.Frag) (ta : TA) : TI := fun σ H R => ta σ H fun vs H1 => ∃ a xs, vs = [.ref a] ∧ SqT K H1 a xs ∧ R (IteT K a) H1
theorem pi_enumT {X : Cx} {e : Expr} {ta : TA} {p pos tpos : Pos} {elts : List Expr} {kk : Nat} (hg : Gl X "enumerate") (hm : X.mg "enumerate" = none) (ha : PA X [e] ta) (hs : starEach [e] X.env = [(false, eval e X.env)] := by rfl) :
    PI X (.Tuple elts kk tpos) (.Call (.Name "enumerate" p) [e] [] pos) (iEnumT X.K ta) := by
  refine ⟨fun pins s σ H R I h => ?_⟩
  refine Call_ (ld_blt I hg hm boot_enumerate (PyProof.Rows.callWith_type1 (thn (ha.run pos pins s σ H _ I h) fun us s1 ⟨vs, H1, I1, r1, q1⟩ => ?_) hs rfl))
  obtain ⟨a, xs, ex, hq, q⟩ := q1
  subst ex
  obtain ⟨u, rfl, ru⟩ := vals1 r1
  cases ru
  obtain ⟨its, rv, p', hz⟩ := I1.tuple hq
  have hal : a < s1.heap.objs.size := by obtain ⟨_, q, _⟩ := id p'; exact Heap.lt_size q
  refine call_enumT (show s1.heap.IsTuple a its.toArray from p') fun h' he hit hk => wpAny_pyIter_enum he ?_
  have I2 : Inv X pins σ H1 { s1 with heap := h' } := I1.kept (t' := s1.toks) hk
  refine ⟨s1.heap.objs.size + 1, [s1.heap.objs.size + 1, s1.heap.objs.size], _, _, H1, rfl, I2, turn_enumT a (s1.heap.objs.size + 1) s1.heap.objs.size, ⟨⟨.none, he⟩, hit, Nat.succ_ne_self _, Nat.ne_of_lt hal, Nat.ne_of_lt (Nat.lt_succ_of_lt hal)⟩, fun b hb => ?_, q⟩
  have hle : s1.heap.objs.size ≤ b := by
    rcases (by simpa using hb : b = s1.heap.objs.size + 1 ∨ b = s1.heap.objs.size) with z | z
    · rw [z]; exact Nat.le_add_right _ _
    · rw [z]; exact Nat.le_refl _
  exact I1.fpOk hle (I1.hok.fresh hle)
/-! ## what enumerate and zip walk, as data -/
def enumL (ds : List PyData) : List PyData := ds.mapIdx fun i d => .tuple [.int (i : Int), d]
theorem enumL_get {ds : List PyData} {i : Nat} {d : PyData} (h : (enumL ds)[i]? = some d) : ∃ x, ds[i]? = some x ∧ d = .tuple [.int (i : Int), x] := by
  unfold enumL at h
  rw [List.getElem?_mapIdx] at h
  obtain ⟨x, h1, h2⟩ := Option.map_eq_some_iff.mp h
  exact ⟨x, h1, h2.symm⟩
theorem pair_new {K : PySem.W.Frag} {F1 H1 : Hp} {T : Addr} {x y : V} {d e : PyData} (z : Same F1 H1) (nT : H1 T = none) (rx : Rp K F1 x d) (ry : Rp K F1 y e) : ∃ F2, Ext F1 H1 F2 (upd H1 T (.tup [x, y])) ∧ Rp K F2 (.ref T) (.tuple [d, e]) := by
  have nF : F1 T = none := z.free nT
  have s1 : Same F1 (upd F1 T (.tup [x, y])) := same_new nF
  refine ⟨upd F1 T (.tup [x, y]), ⟨s1, same_new nT, fun a u h => ?_, fun a o h nt => ?_⟩, .tup upd_same (.cons (rx.mono s1) (.cons (ry.mono s1) .nil))⟩
  · by_cases e : a = T
    · subst e; rw [upd_same] at h ⊢; exact h
    · rw [upd_ne e] at h ⊢; exact z _ _ h
  · rw [upd_ne (fun q => by subst q; rw [nT] at h; cases h)]
theorem yields_enumL {K : PySem.W.Frag} {F G : Hp} {P : Hp → Prop} {a : Addr} {xs : List V} {ds : List PyData} (h : G a = some (.lst xs)) (r : RpAll K F xs ds) : Yields K F G P (Ite K a) (enumL ds) := fun F1 H1 i x y z _ => by
  have hl : SqL K H1 a xs := seqL_inj (y _ _ h)
  have r1 := r.mono x
  refine ⟨fun d hd => ?_, fun hi => ⟨xs, hl, by rw [r.length]; unfold enumL at hi; rw [List.length_mapIdx] at hi; exact hi⟩⟩
  obtain ⟨e, he, rfl⟩ := enumL_get hd
  obtain ⟨v, hv, rv⟩ := r1.get he
  refine ⟨⟨xs, v, hl, hv⟩, ?_⟩
  rintro w H2 ⟨T, w', rfl, nT, rfl, q⟩
  have := q xs hl
  rw [hv] at this
  cases this
  exact pair_new z nT (.int _) rv
theorem yields_enumT {K : PySem.W.Frag} {F G : Hp} {P : Hp → Prop} {a : Addr} {xs : List V} {ds : List PyData} (h : G a = some (.tup xs)) (r : RpAll K F xs ds) : Yields K F G P (IteT K a) (enumL ds) := fun F1 H1 i x y z _ => by
  have hl : SqT K H1 a xs := seqT_inj (y _ _ h)
  have r1 := r.mono x
  refine ⟨fun d hd => ?_, fun hi => ⟨xs, hl, by rw [r.length]; unfold enumL at hi; rw [List.length_mapIdx] at hi; exact hi⟩⟩
  obtain ⟨e, he, rfl⟩ := enumL_get hd
  obtain ⟨v, hv, rv⟩ := r1.get he
  refine ⟨⟨xs, v, hl, hv⟩, ?_⟩
  rintro w H2 ⟨T, w', rfl, nT, rfl, q⟩
  have := q xs hl
  rw [hv] at this
  cases this
  exact pair_new z nT (.int _) rv
def dEnum {S : Type} (f : Den S) : DenA S := fun e s => (f e s).bind fun (a, s1) => (itemsD a).map fun ds => (enumL ds, s1)
theorem denum_inv {S : Type} {f : Den S} {st st' : S} {env : Env} {ds : List PyData} (h : dEnum f env st = some (ds, st')) : ∃ d es, f env st = some (d, st') ∧ ds = enumL es ∧ (d = .list es ∨ d = .tuple es) := by
  unfold dEnum at h
  obtain ⟨⟨x, s1⟩, h1, h⟩ := Option.bind_eq_some_iff.mp h
  obtain ⟨d', h2, h⟩ := Option.map_eq_some_iff.mp h
  cases h
  refine ⟨x, d', h1, rfl, ?_⟩
  unfold itemsD at h2
  split at h2
  · cases h2; exact .inl rfl
  · cases h2; exact .inr rfl
  · cases h2
section
variable {X : Cx} {c : Cfg} {e : Expr} {f : Den c.I.S} {p pos tpos : Pos} {elts : List Expr} {kk : Nat}
theorem pip_enum (hg : Gl X "enumerate") (hm : X.mg "enumerate" = none) (h : PP X c e f) (hs : starEach [e] X.env = [(false, eval e X.env)] := by rfl) : PIp X c (.Tuple elts kk tpos) (.Call (.Name "enumerate" p) [e] [] pos) (dEnum f) :=
  (PI.or (pi_enum hg hm (pa_cons h pa_nil hs) hs) (pi_enumT hg hm (pa_cons h pa_nil hs) hs)).imp fun σ H R ⟨F0, G0, F, env, st, ds, st', Rr, hf, q⟩ => by
  obtain ⟨d, es, h1, rfl, hd⟩ := denum_inv hf
  rcases hd with rfl | rfl
  · refine .inl ⟨F0, G0, F, env, st, _, st', Rr, h1, fun F' H' v x ok sv => ?_⟩
    obtain ⟨a, xs, rfl, ha, r⟩ := sv.list x.fg
    exact ⟨a, xs, rfl, seqL_inj (mask_le _ _ _ _ ha), q F' H' _ x ok (yields_enumL ha r)⟩
  · refine .inr ⟨F0, G0, F, env, st, _, st', Rr, h1, fun F' H' v x ok sv => ?_⟩
    obtain ⟨a, xs, rfl, ha, r⟩ := sv.tuple
    exact ⟨a, xs, rfl, seqT_inj ((x.fg.trans (mask_le _ _)) _ _ ha), q F' H' _ x ok (yields_enumT (x.fg _ _ ha) r)⟩
theorem piv_enum (hg : Gl X "enumerate") (hm : X.mg "enumerate" = none) (h : PV X c e f) (hs : starEach [e] X.env = [(false, eval e X.env)] := by rfl) : PIv X c (.Tuple elts kk tpos) (.Call (.Name "enumerate" p) [e] [] pos) (dEnum f) :=
  (PI.or (pi_enum hg hm (pa_cons h pa_nil hs) hs) (pi_enumT hg hm (pa_cons h pa_nil hs) hs)).imp fun σ H R ⟨F0, G0, F, env, st, ds, st', Rr, hf, q⟩ => by
  obtain ⟨d, es, h1, rfl, hd⟩ := denum_inv hf
  rcases hd with rfl | rfl
  · refine .inl ⟨F0, G0, F, env, st, _, st', Rr, h1, fun F' H' v x ok sv => ?_⟩
    cases sv with
    | lst ha r => exact ⟨_, _, rfl, seqL_inj ((x.fg.trans (mask_le _ _)) _ _ ha), q F' H' _ x ok (yields_enumL ha r)⟩
  · refine .inr ⟨F0, G0, F, env, st, _, st', Rr, h1, fun F' H' v x ok sv => ?_⟩
    cases sv with
    | tup ha r => exact ⟨_, _, rfl, seqT_inj ((x.fg.trans (mask_le _ _)) _ _ ha), q F' H' _ x ok (yields_enumT ha r)⟩
end

/-! ## zip of two lists, of two tuples -/
def zipL (ds es : List PyData) : List PyData := (ds.zip es).map fun p => .tuple [p.1, p.2]
def zipD (a b : PyData) : Option (List PyData) := match a, b with
  | .list ds, .list es => some (zipL ds es)
  | .tuple ds, .tuple es => some (zipL ds es)
  | _, _ => none
theorem zipL_get {ds es : List PyData} {i : Nat} {d : PyData} (h : (zipL ds es)[i]? = some d) : ∃ x y, ds[i]? = some x ∧ es[i]? = some y ∧ d = .tuple [x, y] := by
  unfold zipL at h
  rw [List.getElem?_map] at h
  obtain ⟨⟨x, y⟩, h1, h2⟩ := Option.map_eq_some_iff.mp h
  obtain ⟨h3, h4⟩ := List.getElem?_zip_eq_some.mp h1
  exact ⟨x, y, h3, h4, h2.symm⟩
theorem zipL_len {ds es : List PyData} {i : Nat} (h : (zipL ds es).length ≤ i) : ds.length ≤ i ∨ es.length ≤ i := by
  unfold zipL at h
  rw [List.length_map, List.length_zip] at h
  omega
theorem yields_zipL {K : PySem.W.Frag} {F G : Hp} {P : Hp → Prop} {a b : Addr} {xs ys : List V} {ds es : List PyData} (h : G a = some (.lst xs)) (h' : G b = some (.lst ys)) (r : RpAll K F xs ds) (r' : RpAll K F ys es) : Yields K F G P (Itz K a b) (zipL ds es) := fun F1 H1 i x y z _ => by
  have hl : SqL K H1 a xs := seqL_inj (y _ _ h)
  have hl' : SqL K H1 b ys := seqL_inj (y _ _ h')
  refine ⟨fun d hd => ?_, fun hi => ⟨xs, ys, hl, hl', by rw [r.length, r'.length]; exact zipL_len hi⟩⟩
  obtain ⟨u, v, hu, hv, rfl⟩ := zipL_get hd
  obtain ⟨v1, hv1, rv1⟩ := (r.mono x).get hu
  obtain ⟨v2, hv2, rv2⟩ := (r'.mono x).get hv
  refine ⟨⟨xs, ys, v1, v2, hl, hl', hv1, hv2⟩, ?_⟩
  rintro w H2 ⟨T, w1, w2, rfl, nT, rfl, q1, q2⟩
  have e1 := q1 xs hl
  have e2 := q2 ys hl'
  rw [hv1] at e1
  rw [hv2] at e2
  cases e1
  cases e2
  exact pair_new z nT rv1 rv2
theorem yields_zipT {K : PySem.W.Frag} {F G : Hp} {P : Hp → Prop} {a b : Addr} {xs ys : List V} {ds es : List PyData} (h : G a = some (.tup xs)) (h' : G b = some (.tup ys)) (r : RpAll K F xs ds) (r' : RpAll K F ys es) : Yields K F G P (RZ.ItzT K a b) (zipL ds es) := fun F1 H1 i x y z _ => by
  have hl : SqT K H1 a xs := seqT_inj (y _ _ h)
  have hl' : SqT K H1 b ys := seqT_inj (y _ _ h')
  refine ⟨fun d hd => ?_, fun hi => ⟨xs, ys, hl, hl', by rw [r.length, r'.length]; exact zipL_len hi⟩⟩
  obtain ⟨u, v, hu, hv, rfl⟩ := zipL_get hd
  obtain ⟨v1, hv1, rv1⟩ := (r.mono x).get hu
  obtain ⟨v2, hv2, rv2⟩ := (r'.mono x).get hv
  refine ⟨⟨xs, ys, v1, v2, hl, hl', hv1, hv2⟩, ?_⟩
  rintro w H2 ⟨T, w1, w2, rfl, nT, rfl, q1, q2⟩
  have e1 := q1 xs hl
  have e2 := q2 ys hl'
  rw [hv1] at e1
  rw [hv2] at e2
  cases e1
  cases e2
  exact pair_new z nT rv1 rv2
def dZip {S : Type} (f g : Den S) : DenA S := fun e s => (f e s).bind fun (a, s1) => (g e s1).bind fun (b, s2) => (zipD a b).map fun ds => (ds, s2)
theorem zipD_inv {a b : PyData} {zs : List PyData} (h : zipD a b = some zs) : ∃ ds es, zs = zipL ds es ∧ ((a = .list ds ∧ b = .list es) ∨ (a = .tuple ds ∧ b = .tuple es)) := by
  unfold zipD at h
  split at h
  · cases h; exact ⟨_, _, rfl, .inl ⟨rfl, rfl⟩⟩
  · cases h; exact ⟨_, _, rfl, .inr ⟨rfl, rfl⟩⟩
  · cases h
section
variable {X : Cx} {c : Cfg} {e e2 : Expr} {f g : Den c.I.S} {p pos tpos : Pos} {elts : List Expr} {kk : Nat}
theorem pip_zip (hg : Gl X "zip") (hm : X.mg "zip" = none) (h : PP X c e f) (h2 : PP X c e2 g) (hs : starEach [e, e2] X.env = (false, eval e X.env) :: starEach [e2] X.env := by rfl) (hs2 : starEach [e2] X.env = (false, eval e2 X.env) :: starEach [] X.env := by rfl) (hpl : (backTo pos (starEach [e2] X.env)).any (·.1) = false := by rfl) :
    PIp X c (.Tuple elts kk tpos) (.Call (.Name "zip" p) [e, e2] [] pos) (dZip f g) :=
  (RZ.pi_zipA hg hm (pa_cons h (pa_cons h2 pa_nil hs2) hs) hs hpl).imp fun σ H R ⟨F0, G0, F, env, st, zs, st', Rr, hf, q⟩ => by
  unfold dZip at hf
  obtain ⟨⟨a, s1⟩, h1, hf⟩ := Option.bind_eq_some_iff.mp hf
  obtain ⟨⟨b, s2⟩, h3, hf⟩ := Option.bind_eq_some_iff.mp hf
  obtain ⟨zs', h4, hf⟩ := Option.map_eq_some_iff.mp hf
  cases hf
  obtain ⟨ds, es, rfl, hd⟩ := zipD_inv h4
  refine ⟨F0, G0, F, env, st, a, s1, Rr, h1, fun F1 H1 v x1 ok1 sv => ?_⟩
  have R1 := Rr.step x1 ok1
  refine ⟨F0, G0, F1, env, s1, b, _, R1, h3, fun F2 H2 w x2 ok2 sw => ?_⟩
  rcases hd with ⟨rfl, rfl⟩ | ⟨rfl, rfl⟩
  · obtain ⟨a, xs, rfl, ha, r⟩ := (sv.mono x2.f x2.g).list x2.fg
    obtain ⟨b, ys, rfl, hb, r'⟩ := sw.list x2.fg
    exact ⟨a, b, xs, ys, rfl, .inl ⟨seqL_inj (mask_le _ _ _ _ ha), seqL_inj (mask_le _ _ _ _ hb), q F2 H2 _ (x1.trans x2) ok2 (yields_zipL ha hb r r')⟩⟩
  · obtain ⟨a, xs, rfl, ha, r⟩ := (sv.mono x2.f x2.g).tuple
    obtain ⟨b, ys, rfl, hb, r'⟩ := sw.tuple
    exact ⟨a, b, xs, ys, rfl, .inr ⟨seqT_inj ((x2.fg.trans (mask_le _ _)) _ _ ha), seqT_inj ((x2.fg.trans (mask_le _ _)) _ _ hb), q F2 H2 _ (x1.trans x2) ok2 (yields_zipT (x2.fg _ _ ha) (x2.fg _ _ hb) r r')⟩⟩
theorem piv_zip (hg : Gl X "zip") (hm : X.mg "zip" = none) (h : PV X c e f) (h2 : PV X c e2 g) (hs : starEach [e, e2] X.env = (false, eval e X.env) :: starEach [e2] X.env := by rfl) (hs2 : starEach [e2] X.env = (false, eval e2 X.env) :: starEach [] X.env := by rfl) (hpl : (backTo pos (starEach [e2] X.env)).any (·.1) = false := by rfl) :
    PIv X c (.Tuple elts kk tpos) (.Call (.Name "zip" p) [e, e2] [] pos) (dZip f g) :=
  (RZ.pi_zipA hg hm (pa_cons h (pa_cons h2 pa_nil hs2) hs) hs hpl).imp fun σ H R ⟨F0, G0, F, env, st, zs, st', Rr, hf, q⟩ => by
  unfold dZip at hf
  obtain ⟨⟨a, s1⟩, h1, hf⟩ := Option.bind_eq_some_iff.mp hf
  obtain ⟨⟨b, s2⟩, h3, hf⟩ := Option.bind_eq_some_iff.mp hf
  obtain ⟨zs', h4, hf⟩ := Option.map_eq_some_iff.mp hf
  cases hf
  obtain ⟨ds, es, rfl, hd⟩ := zipD_inv h4
  refine ⟨F0, G0, F, env, st, a, s1, Rr, h1, fun F1 H1 v x1 ok1 sv => ?_⟩
  have R1 := Rr.step x1 ok1
  refine ⟨F0, G0, F1, env, s1, b, _, R1, h3, fun F2 H2 w x2 ok2 sw => ?_⟩
  have fh := x2.fg.trans (mask_le c.I H2)
  have sv := sv.mono x2.f
  rcases hd with ⟨rfl, rfl⟩ | ⟨rfl, rfl⟩
  · cases sv with
    | lst ha r => cases sw with
      | lst hb r' => exact ⟨_, _, _, _, rfl, .inl ⟨seqL_inj (fh _ _ ha), seqL_inj (fh _ _ hb), q F2 H2 _ (x1.trans x2) ok2 (yields_zipL ha hb r r')⟩⟩
  · cases sv with
    | tup ha r => cases sw with
      | tup hb r' => exact ⟨_, _, _, _, rfl, .inr ⟨seqT_inj (fh _ _ ha), seqT_inj (fh _ _ hb), q F2 H2 _ (x1.trans x2) ok2 (yields_zipT ha hb r r')⟩⟩
end
/-! ## *items in a display -/
def dAStar {S : Type} (f : Den S) (r : DenA S) : DenA S := fun e s => (f e s).bind fun (a, s1) => (itemsD a).bind fun ds => (r e s1).bind fun (as, s2) => some (ds ++ as, s2)
theorem pav_star {X : Cx} {c : Cfg} {e : Expr} {es : List Expr} {f : Den c.I.S} {fs : DenA c.I.S} {p : Pos} (ha : PV X c e f) (hr : PAv X c es fs) (hs : starEach (.Starred e p :: es) X.env = (true, eval e X.env) :: starEach es X.env := by rfl) : PAv X c (.Starred e p :: es) (dAStar f fs) :=
  (StX.pa_star ha hr hs).imp fun σ H Q ⟨F0, G0, F, env, st, ds, st', R, hf, q⟩ => by
    unfold dAStar at hf
    obtain ⟨⟨a, s1⟩, h1, hf⟩ := Option.bind_eq_some_iff.mp hf
    obtain ⟨es, h2, hf⟩ := Option.bind_eq_some_iff.mp hf
    obtain ⟨⟨as, s2⟩, h3, hf⟩ := Option.bind_eq_some_iff.mp hf
    cases hf
    refine ⟨F0, G0, F, env, st, a, s1, R, h1, fun F1 H1 v x1 ok1 r1 => ?_⟩
    have R1 := R.step x1 ok1
    have fin : ∀ (xs : List V), RpAll X.K F1 xs es → tA X.K c fs σ H1 fun ys H2 => Q (xs ++ ys) H2 := fun xs r => ⟨F0, G0, F1, env, s1, as, _, R1, h3, fun F2 H2 vs x2 ok2 r2 => q F2 H2 _ (x1.trans x2) ok2 ((r.mono x2.f).append r2)⟩
    unfold itemsD at h2
    split at h2
    · cases h2; cases r1 with | lst hp r => exact ⟨_, _, rfl, .inr (seqL_inj (R1.fh _ _ hp)), fin _ r⟩
    · cases h2; cases r1 with | tup hp r => exact ⟨_, _, rfl, .inl (seqT_inj (R1.fh _ _ hp)), fin _ r⟩
    · cases h2
end DL

set_option Elab.async false
set_option linter.all false
set_option maxRecDepth 100000
namespace DL
open PySem PySem.Spec PyProof.Rows L2

/-! ## running denotations -/
section
variable {S : Type}
def Ev (f : Den S) (e : Env) (s : S) (Q : PyData → S → Prop) : Prop := ∃ d s', f e s = some (d, s') ∧ Q d s'
def EvA (f : DenA S) (e : Env) (s : S) (Q : List PyData → S → Prop) : Prop := ∃ d s', f e s = some (d, s') ∧ Q d s'
def EvB (f : DenB S) (e : Env) (s : S) (Q : Bool → S → Prop) : Prop := ∃ d s', f e s = some (d, s') ∧ Q d s'
def EvO (f : DenO S) (e : Env) (s : S) (Q : Option Int → S → Prop) : Prop := ∃ d s', f e s = some (d, s') ∧ Q d s'
def Runs (g : DenS S) (e : Env) (s : S) (Q : Fl → Env → S → Prop) : Prop := ∃ fl e' s', g e s = some ((fl, e'), s') ∧ Q fl e' s'
/-- g's answer -/
def Gets {α : Type} (o : Option α) (Q : α → Prop) : Prop := ∃ d, o = some d ∧ Q d
variable {f f1 f2 f3 : Den S} {fs : DenA S} {t t2 : DenB S} {g h : DenS S} {e : Env} {s : S} {i j : Nat} {l u : DenO S}
variable {Q : PyData → S → Prop} {QA : List PyData → S → Prop} {QB : Bool → S → Prop} {QS : Fl → Env → S → Prop} {QO : Option Int → S → Prop}
@[simp] theorem ok_some {α : Type} {a : α} {Q : α → Prop} : Gets (some a) Q ↔ Q a := ⟨fun ⟨_, e, q⟩ => by cases e; exact q, fun q => ⟨a, rfl, q⟩⟩
@[simp] theorem ok_none {α : Type} {Q : α → Prop} : Gets none Q ↔ False := ⟨fun ⟨_, e, _⟩ => (by cases e), fun q => q.elim⟩
theorem ok_if {α : Type} {p : Prop} [Decidable p] {a : α} {Q : α → Prop} : Gets (if p then some a else none) Q ↔ p ∧ Q a := by
  by_cases h : p
  · rw [if_pos h, ok_some]; exact ⟨fun q => ⟨h, q⟩, fun q => q.2⟩
  · rw [if_neg h, ok_none]; exact ⟨fun q => q.elim, fun q => h q.1⟩
theorem Ev.imp {Q' : PyData → S → Prop} (h : Ev f e s Q) (m : ∀ d s', Q d s' → Q' d s') : Ev f e s Q' := let ⟨d, s', a, b⟩ := h; ⟨d, s', a, m d s' b⟩
theorem Runs.imp {Q' : Fl → Env → S → Prop} (h : Runs g e s QS) (m : ∀ fl e' s', QS fl e' s' → Q' fl e' s') : Runs g e s Q' := let ⟨d, e', s', a, b⟩ := h; ⟨d, e', s', a, m d e' s' b⟩
theorem ev_c {d : PyData} : Ev (dC d) e s Q ↔ Q d s := ⟨fun ⟨_, _, a, q⟩ => by cases a; exact q, fun q => ⟨d, s, rfl, q⟩⟩
theorem ev_var : Ev (dVar i) e s Q ↔ ∃ d, e[i]? = some (some d) ∧ Q d s := by
  constructor
  · rintro ⟨d, s', a, q⟩
    unfold dVar at a
    split at a
    · rename_i d' h; cases a; exact ⟨_, h, q⟩
    · cases a
  · rintro ⟨d, h, q⟩
    exact ⟨d, s, by unfold dVar; rw [h], q⟩
theorem ev_un {k : PyData → Option PyData} : Ev (dUn k f) e s Q ↔ Ev f e s fun a s1 => Gets (k a) fun d => Q d s1 := by
  constructor
  · rintro ⟨d, s', a, q⟩
    obtain ⟨x, h1, h2⟩ := dun_inv a
    exact ⟨x, s', h1, d, h2, q⟩
  · rintro ⟨x, s', h1, d, h2, q⟩
    exact ⟨d, s', by unfold dUn; rw [h1]; show (k x).map _ = _; rw [h2]; rfl, q⟩
theorem ev_bin {k : PyData → PyData → Option PyData} : Ev (dBin k f1 f2) e s Q ↔ Ev f1 e s fun a s1 => Ev f2 e s1 fun b s2 => Gets (k a b) fun d => Q d s2 := by
  constructor
  · rintro ⟨d, s', a, q⟩
    obtain ⟨x, s1, y, h1, h2, h3⟩ := bin_inv a
    exact ⟨x, s1, h1, y, s', h2, d, h3, q⟩
  · rintro ⟨x, s1, h1, y, s2, h2, d, h3, q⟩
    exact ⟨d, s2, bin_mk h1 h2 h3, q⟩
theorem eva_nil : EvA (dANil : DenA S) e s QA ↔ QA [] s := ⟨fun ⟨_, _, a, q⟩ => by cases a; exact q, fun q => ⟨[], s, rfl, q⟩⟩
theorem eva_cons : EvA (dACons f fs) e s QA ↔ Ev f e s fun a s1 => EvA fs e s1 fun as s2 => QA (a :: as) s2 := by
  constructor
  · rintro ⟨d, s', a, q⟩
    unfold dACons at a
    obtain ⟨⟨x, s1⟩, h1, a⟩ := Option.bind_eq_some_iff.mp a
    obtain ⟨⟨y, s2⟩, h2, a⟩ := Option.bind_eq_some_iff.mp a
    cases a
    exact ⟨x, s1, h1, y, _, h2, q⟩
  · rintro ⟨x, s1, h1, y, s2, h2, q⟩
    exact ⟨x :: y, s2, by unfold dACons; rw [h1]; show (fs e s1).bind _ = _; rw [h2]; rfl, q⟩
theorem ev_app {k : List PyData → Option PyData} : Ev (dApp k fs) e s Q ↔ EvA fs e s fun as s1 => Gets (k as) fun d => Q d s1 := by
  constructor
  · rintro ⟨d, s', a, q⟩
    unfold dApp at a
    obtain ⟨⟨x, s1⟩, h1, a⟩ := Option.bind_eq_some_iff.mp a
    obtain ⟨d', h2, a⟩ := Option.map_eq_some_iff.mp a
    cases a
    exact ⟨x, _, h1, _, h2, q⟩
  · rintro ⟨x, s', h1, d, h2, q⟩
    exact ⟨d, s', by unfold dApp; rw [h1]; show (k x).map _ = _; rw [h2]; rfl, q⟩
theorem ev_tup : Ev (dTup fs) e s Q ↔ EvA fs e s fun as s1 => as.length ≤ sizeLine ∧ Q (.tuple as) s1 := by
  constructor
  · rintro ⟨d, s', a, q⟩
    unfold dTup at a
    obtain ⟨⟨x, s1⟩, h1, h2⟩ := Option.bind_eq_some_iff.mp a
    dsimp only at h2
    split at h2
    · rename_i hl; cases h2; exact ⟨x, _, h1, hl, q⟩
    · cases h2
  · rintro ⟨x, s', h1, hl, q⟩
    exact ⟨.tuple x, s', by unfold dTup; rw [h1]; show (if _ then _ else _) = _; rw [if_pos hl], q⟩
theorem ev_lst : Ev (dLst fs) e s Q ↔ EvA fs e s fun as s1 => as.length ≤ sizeLine ∧ Q (.list as) s1 := by
  constructor
  · rintro ⟨d, s', a, q⟩
    unfold dLst at a
    obtain ⟨⟨x, s1⟩, h1, h2⟩ := Option.bind_eq_some_iff.mp a
    dsimp only at h2
    split at h2
    · rename_i hl; cases h2; exact ⟨x, _, h1, hl, q⟩
    · cases h2
  · rintro ⟨x, s', h1, hl, q⟩
    exact ⟨.list x, s', by unfold dLst; rw [h1]; show (if _ then _ else _) = _; rw [if_pos hl], q⟩
theorem evb_b : EvB (dB f) e s QB ↔ Ev f e s fun a s1 => Gets (toB a) fun b => QB b s1 := by
  constructor
  · rintro ⟨d, s', a, q⟩
    unfold dB at a
    obtain ⟨⟨x, s1⟩, h1, h2⟩ := Option.bind_eq_some_iff.mp a
    obtain ⟨b, h3, h4⟩ := Option.map_eq_some_iff.mp h2
    cases h4
    exact ⟨x, _, h1, _, h3, q⟩
  · rintro ⟨x, s', h1, d, h2, q⟩
    exact ⟨d, s', by unfold dB; rw [h1]; show (toB x).map _ = _; rw [h2]; rfl, q⟩
theorem evb_and : EvB (dBAnd t t2) e s QB ↔ EvB t e s fun a s1 => if a = true then EvB t2 e s1 QB else QB false s1 := by
  constructor
  · rintro ⟨d, s', a, q⟩
    unfold dBAnd at a
    obtain ⟨⟨x, s1⟩, h1, h2⟩ := Option.bind_eq_some_iff.mp a
    refine ⟨x, s1, h1, ?_⟩
    dsimp only at h2
    split at h2
    · rename_i hx; rw [if_pos hx]; exact ⟨d, s', h2, q⟩
    · rename_i hx; rw [if_neg hx]; cases h2; exact q
  · rintro ⟨x, s1, h1, q⟩
    split at q
    · rename_i hx
      obtain ⟨d, s', h2, q⟩ := q
      exact ⟨d, s', by unfold dBAnd; rw [h1]; show (if _ then _ else _) = _; rw [if_pos hx, h2], q⟩
    · rename_i hx
      exact ⟨false, s1, by unfold dBAnd; rw [h1]; show (if _ then _ else _) = _; rw [if_neg hx], q⟩
theorem evb_or : EvB (dBOr t t2) e s QB ↔ EvB t e s fun a s1 => if a = true then QB true s1 else EvB t2 e s1 QB := by
  constructor
  · rintro ⟨d, s', a, q⟩
    unfold dBOr at a
    obtain ⟨⟨x, s1⟩, h1, h2⟩ := Option.bind_eq_some_iff.mp a
    refine ⟨x, s1, h1, ?_⟩
    dsimp only at h2
    split at h2
    · rename_i hx; rw [if_pos hx]; cases h2; exact q
    · rename_i hx; rw [if_neg hx]; exact ⟨d, s', h2, q⟩
  · rintro ⟨x, s1, h1, q⟩
    split at q
    · rename_i hx
      exact ⟨true, s1, by unfold dBOr; rw [h1]; show (if _ then _ else _) = _; rw [if_pos hx], q⟩
    · rename_i hx
      obtain ⟨d, s', h2, q⟩ := q
      exact ⟨d, s', by unfold dBOr; rw [h1]; show (if _ then _ else _) = _; rw [if_neg hx, h2], q⟩
theorem evb_not : EvB (dBNot t) e s QB ↔ EvB t e s fun a s1 => QB (!a) s1 := by
  constructor
  · rintro ⟨d, s', a, q⟩
    unfold dBNot at a
    obtain ⟨⟨x, s1⟩, h1, h2⟩ := Option.bind_eq_some_iff.mp a
    cases h2
    exact ⟨x, _, h1, q⟩
  · rintro ⟨x, s', h1, q⟩
    exact ⟨!x, s', by unfold dBNot; rw [h1]; rfl, q⟩
theorem evb_true : EvB (dTrue : DenB S) e s QB ↔ QB true s := ⟨fun ⟨_, _, a, q⟩ => by cases a; exact q, fun q => ⟨true, s, rfl, q⟩⟩
theorem ev_and : Ev (dAnd f1 f2) e s Q ↔ Ev f1 e s fun a s1 => Gets (toB a) fun b => if b = true then Ev f2 e s1 Q else Q (.bool false) s1 := by
  constructor
  · rintro ⟨d, s', a, q⟩
    unfold dAnd at a
    obtain ⟨⟨x, s1⟩, h1, h2⟩ := Option.bind_eq_some_iff.mp a
    obtain ⟨b, h3, h4⟩ := Option.bind_eq_some_iff.mp h2
    refine ⟨x, s1, h1, b, h3, ?_⟩
    split at h4
    · rename_i hx; rw [if_pos hx]; exact ⟨d, s', h4, q⟩
    · rename_i hx; rw [if_neg hx]; cases h4; exact q
  · rintro ⟨x, s1, h1, b, h3, q⟩
    split at q
    · rename_i hx
      obtain ⟨d, s', h2, q⟩ := q
      exact ⟨d, s', by unfold dAnd; rw [h1]; show (toB x).bind _ = _; rw [h3]; show (if _ then _ else _) = _; rw [if_pos hx, h2], q⟩
    · rename_i hx
      exact ⟨.bool false, s1, by unfold dAnd; rw [h1]; show (toB x).bind _ = _; rw [h3]; show (if _ then _ else _) = _; rw [if_neg hx], q⟩
theorem ev_or : Ev (dOr f1 f2) e s Q ↔ Ev f1 e s fun a s1 => Gets (toB a) fun b => if b = true then Q (.bool true) s1 else Ev f2 e s1 Q := by
  constructor
  · rintro ⟨d, s', a, q⟩
    unfold dOr at a
    obtain ⟨⟨x, s1⟩, h1, h2⟩ := Option.bind_eq_some_iff.mp a
    obtain ⟨b, h3, h4⟩ := Option.bind_eq_some_iff.mp h2
    refine ⟨x, s1, h1, b, h3, ?_⟩
    split at h4
    · rename_i hx; rw [if_pos hx]; cases h4; exact q
    · rename_i hx; rw [if_neg hx]; exact ⟨d, s', h4, q⟩
  · rintro ⟨x, s1, h1, b, h3, q⟩
    split at q
    · rename_i hx
      exact ⟨.bool true, s1, by unfold dOr; rw [h1]; show (toB x).bind _ = _; rw [h3]; show (if _ then _ else _) = _; rw [if_pos hx], q⟩
    · rename_i hx
      obtain ⟨d, s', h2, q⟩ := q
      exact ⟨d, s', by unfold dOr; rw [h1]; show (toB x).bind _ = _; rw [h3]; show (if _ then _ else _) = _; rw [if_neg hx, h2], q⟩
theorem ev_not : Ev (dNot f) e s Q ↔ Ev f e s fun a s1 => Gets (toB a) fun b => Q (.bool (!b)) s1 := by
  constructor
  · rintro ⟨d, s', a, q⟩
    unfold dNot at a
    obtain ⟨⟨x, s1⟩, h1, h2⟩ := Option.bind_eq_some_iff.mp a
    obtain ⟨b, h3, h4⟩ := Option.map_eq_some_iff.mp h2
    cases h4
    exact ⟨x, _, h1, _, h3, q⟩
  · rintro ⟨x, s', h1, d, h2, q⟩
    exact ⟨.bool (!d), s', by unfold dNot; rw [h1]; show (toB x).map _ = _; rw [h2]; rfl, q⟩
theorem ev_if : Ev (dIf t f1 f2) e s Q ↔ EvB t e s fun a s1 => if a = true then Ev f1 e s1 Q else Ev f2 e s1 Q := by
  constructor
  · rintro ⟨d, s', a, q⟩
    unfold dIf at a
    obtain ⟨⟨x, s1⟩, h1, h2⟩ := Option.bind_eq_some_iff.mp a
    refine ⟨x, s1, h1, ?_⟩
    dsimp only at h2
    split at h2
    · rename_i hx; rw [if_pos hx]; exact ⟨d, s', h2, q⟩
    · rename_i hx; rw [if_neg hx]; exact ⟨d, s', h2, q⟩
  · rintro ⟨x, s1, h1, q⟩
    split at q
    · rename_i hx
      obtain ⟨d, s', h2, q⟩ := q
      exact ⟨d, s', by unfold dIf; rw [h1]; show (if _ then _ else _) = _; rw [if_pos hx, h2], q⟩
    · rename_i hx
      obtain ⟨d, s', h2, q⟩ := q
      exact ⟨d, s', by unfold dIf; rw [h1]; show (if _ then _ else _) = _; rw [if_neg hx, h2], q⟩
theorem ev_chain {k1 k2 : PyData → PyData → Option PyData} : Ev (dChain k1 k2 f1 f2 f3) e s Q ↔ Ev f1 e s fun a s1 => Ev f2 e s1 fun b s2 => Gets (k1 a b) fun x => Gets (toB x) fun k => if k = true then Ev f3 e s2 fun z s3 => Gets (k2 b z) fun d => Q d s3 else Q (.bool false) s2 := by
  constructor
  · rintro ⟨d, s', h, q⟩
    unfold dChain at h
    obtain ⟨⟨a, s1⟩, h1, h⟩ := Option.bind_eq_some_iff.mp h
    obtain ⟨⟨b, s2⟩, h2, h⟩ := Option.bind_eq_some_iff.mp h
    obtain ⟨x, h3, h⟩ := Option.bind_eq_some_iff.mp h
    obtain ⟨k, h4, h⟩ := Option.bind_eq_some_iff.mp h
    refine ⟨a, s1, h1, b, s2, h2, x, h3, k, h4, ?_⟩
    split at h
    · rename_i hx
      rw [if_pos hx]
      obtain ⟨⟨z, s3⟩, h5, h⟩ := Option.bind_eq_some_iff.mp h
      obtain ⟨d', h6, h⟩ := Option.map_eq_some_iff.mp h
      cases h
      exact ⟨z, _, h5, _, h6, q⟩
    · rename_i hx; rw [if_neg hx]; cases h; exact q
  · rintro ⟨a, s1, h1, b, s2, h2, x, h3, k, h4, q⟩
    split at q
    · rename_i hx
      obtain ⟨z, s3, h5, d, h6, q⟩ := q
      exact ⟨d, s3, by unfold dChain; rw [h1]; show (f2 e s1).bind _ = _; rw [h2]; show (k1 a b).bind _ = _; rw [h3]; show (toB x).bind _ = _; rw [h4]; show (if _ then _ else _) = _; rw [if_pos hx, h5]; show (k2 b z).map _ = _; rw [h6]; rfl, q⟩
    · rename_i hx
      exact ⟨.bool false, s2, by unfold dChain; rw [h1]; show (f2 e s1).bind _ = _; rw [h2]; show (k1 a b).bind _ = _; rw [h3]; show (toB x).bind _ = _; rw [h4]; show (if _ then _ else _) = _; rw [if_neg hx], q⟩
theorem evo_none : EvO (dONone : DenO S) e s QO ↔ QO none s := ⟨fun ⟨_, _, a, q⟩ => by cases a; exact q, fun q => ⟨none, s, rfl, q⟩⟩
def toI : PyData → Option Int
  | .int i => some i
  | _ => none
theorem evo_some : EvO (dOSome f) e s QO ↔ Ev f e s fun a s1 => Gets (toI a) fun i => QO (some i) s1 := by
  constructor
  · rintro ⟨d, s', a, q⟩
    unfold dOSome at a
    obtain ⟨⟨x, s1⟩, h1, h2⟩ := Option.bind_eq_some_iff.mp a
    dsimp only at h2
    split at h2
    · cases h2; exact ⟨_, _, h1, _, rfl, q⟩
    · cases h2
  · rintro ⟨x, s', h1, d, h2, q⟩
    cases x <;> simp only [toI] at h2 <;> cases h2
    exact ⟨some d, s', by unfold dOSome; rw [h1]; rfl, q⟩
theorem ev_sl {k : PyData → Option Int → Option Int → Option PyData} : Ev (dSl k f l u) e s Q ↔ Ev f e s fun a s1 => EvO l e s1 fun i s2 => EvO u e s2 fun j s3 => Gets (k a i j) fun d => Q d s3 := by
  constructor
  · rintro ⟨d, s', a, q⟩
    obtain ⟨x, s1, i, s2, j, h1, h2, h3, h4⟩ := sl_inv a
    exact ⟨x, s1, h1, i, s2, h2, j, s', h3, d, h4, q⟩
  · rintro ⟨x, s1, h1, i, s2, h2, j, s', h3, d, h4, q⟩
    exact ⟨d, s', by unfold dSl; rw [h1]; show (l e s1).bind _ = _; rw [h2]; show (u e s2).bind _ = _; rw [h3]; show (k x i j).map _ = _; rw [h4]; rfl, q⟩
theorem eva_items : EvA (dItems f) e s QA ↔ Ev f e s fun a s1 => Gets (itemsD a) fun ds => QA ds s1 := by
  constructor
  · rintro ⟨d, s', a, q⟩
    unfold dItems at a
    obtain ⟨⟨x, s1⟩, h1, h2⟩ := Option.bind_eq_some_iff.mp a
    obtain ⟨b, h3, h4⟩ := Option.map_eq_some_iff.mp h2
    cases h4
    exact ⟨x, _, h1, _, h3, q⟩
  · rintro ⟨x, s', h1, d, h2, q⟩
    exact ⟨d, s', by unfold dItems; rw [h1]; show (itemsD x).map _ = _; rw [h2]; rfl, q⟩
theorem eva_range1 : EvA (dRange1 f) e s QA ↔ Ev f e s fun a s1 => Gets (range1 a) fun ds => QA ds s1 := by
  constructor
  · rintro ⟨d, s', a, q⟩
    unfold dRange1 at a
    obtain ⟨⟨x, s1⟩, h1, h2⟩ := Option.bind_eq_some_iff.mp a
    obtain ⟨b, h3, h4⟩ := Option.map_eq_some_iff.mp h2
    cases h4
    exact ⟨x, _, h1, _, h3, q⟩
  · rintro ⟨x, s', h1, d, h2, q⟩
    exact ⟨d, s', by unfold dRange1; rw [h1]; show (range1 x).map _ = _; rw [h2]; rfl, q⟩
theorem eva_range2 : EvA (dRange2 f1 f2) e s QA ↔ Ev f1 e s fun a s1 => Ev f2 e s1 fun b s2 => Gets (range2 a b) fun ds => QA ds s2 := by
  constructor
  · rintro ⟨d, s', a, q⟩
    unfold dRange2 at a
    obtain ⟨⟨x, s1⟩, h1, h2⟩ := Option.bind_eq_some_iff.mp a
    obtain ⟨⟨y, s2⟩, h3, h4⟩ := Option.bind_eq_some_iff.mp h2
    obtain ⟨b, h5, h6⟩ := Option.map_eq_some_iff.mp h4
    cases h6
    exact ⟨x, _, h1, y, _, h3, _, h5, q⟩
  · rintro ⟨x, s1, h1, y, s2, h3, d, h2, q⟩
    exact ⟨d, s2, by unfold dRange2; rw [h1]; show (f2 e s1).bind _ = _; rw [h3]; show (range2 x y).map _ = _; rw [h2]; rfl, q⟩
theorem ev_comp {vs : List Nat} {it : DenA S} {bd : PyData → Env → Option Env} : Ev (dComp vs it bd t f) e s Q ↔ EvA it e s fun ds s1 => Gets (compL vs bd t f ds e s1) fun p => p.1.length ≤ sizeLine ∧ Q (.list p.1) p.2 := by
  constructor
  · rintro ⟨d, s', a, q⟩
    unfold dComp at a
    obtain ⟨⟨x, s1⟩, h1, h2⟩ := Option.bind_eq_some_iff.mp a
    obtain ⟨⟨y, s2⟩, h3, h4⟩ := Option.bind_eq_some_iff.mp h2
    dsimp only at h4
    split at h4
    · rename_i hl; cases h4; exact ⟨x, s1, h1, (y, _), h3, hl, q⟩
    · cases h4
  · rintro ⟨x, s1, h1, ⟨y, s2⟩, h3, hl, q⟩
    exact ⟨.list y, s2, by unfold dComp; rw [h1]; show (compL vs bd t f x e s1).bind _ = _; rw [h3]; show (if _ then _ else _) = _; rw [if_pos hl], q⟩

/-! ### statements -/
def nxt (QS : Fl → Env → S → Prop) (K : Env → S → Prop) : Fl → Env → S → Prop
  | .nx, e, s => K e s
  | fl, e, s => QS fl e s
@[simp] theorem nxt_nx {K : Env → S → Prop} : nxt QS K .nx e s = K e s := rfl
@[simp] theorem nxt_ret {K : Env → S → Prop} {d : PyData} : nxt QS K (.ret d) e s = QS (.ret d) e s := rfl
@[simp] theorem nxt_bk {K : Env → S → Prop} : nxt QS K .bk e s = QS .bk e s := rfl
@[simp] theorem nxt_ct {K : Env → S → Prop} : nxt QS K .ct e s = QS .ct e s := rfl
theorem runs_skip : Runs (sSkip : DenS S) e s QS ↔ QS .nx e s := ⟨fun ⟨_, _, _, a, q⟩ => by cases a; exact q, fun q => ⟨_, _, _, rfl, q⟩⟩
theorem runs_seq : Runs (sSeq g h) e s QS ↔ Runs g e s (nxt QS fun e1 s1 => Runs h e1 s1 QS) := by
  constructor
  · rintro ⟨fl, e', s', a, q⟩
    unfold sSeq at a
    obtain ⟨⟨⟨f1, e1⟩, s1⟩, h1, h2⟩ := Option.bind_eq_some_iff.mp a
    refine ⟨f1, e1, s1, h1, ?_⟩
    cases f1 with
    | nx => exact ⟨fl, e', s', h2, q⟩
    | bk => cases h2; exact q
    | ct => cases h2; exact q
    | ret d => cases h2; exact q
  · rintro ⟨f1, e1, s1, h1, q⟩
    cases f1 with
    | nx =>
      obtain ⟨fl, e', s', h2, q⟩ := q
      exact ⟨fl, e', s', by unfold sSeq; rw [h1]; exact h2, q⟩
    | bk => exact ⟨.bk, e1, s1, by unfold sSeq; rw [h1]; rfl, q⟩
    | ct => exact ⟨.ct, e1, s1, by unfold sSeq; rw [h1]; rfl, q⟩
    | ret d => exact ⟨.ret d, e1, s1, by unfold sSeq; rw [h1]; rfl, q⟩
theorem runs_ret : Runs (sRet f) e s QS ↔ Ev f e s fun d s1 => QS (.ret d) e s1 := by
  constructor
  · rintro ⟨fl, e', s', a, q⟩
    unfold sRet at a
    obtain ⟨⟨x, s1⟩, h1, h2⟩ := Option.bind_eq_some_iff.mp a
    cases h2
    exact ⟨x, _, h1, q⟩
  · rintro ⟨x, s', h1, q⟩
    exact ⟨.ret x, e, s', by unfold sRet; rw [h1]; rfl, q⟩
theorem runs_set : Runs (sSet i f) e s QS ↔ Ev f e s fun d s1 => QS .nx (e.set i (some d)) s1 := by
  constructor
  · rintro ⟨fl, e', s', a, q⟩
    unfold sSet at a
    obtain ⟨⟨x, s1⟩, h1, h2⟩ := Option.bind_eq_some_iff.mp a
    cases h2
    exact ⟨x, _, h1, q⟩
  · rintro ⟨x, s', h1, q⟩
    exact ⟨.nx, _, s', by unfold sSet; rw [h1]; rfl, q⟩
theorem runs_drop : Runs (sDrop f) e s QS ↔ Ev f e s fun d s1 => QS .nx e s1 := by
  constructor
  · rintro ⟨fl, e', s', a, q⟩
    unfold sDrop at a
    obtain ⟨⟨x, s1⟩, h1, h2⟩ := Option.bind_eq_some_iff.mp a
    cases h2
    exact ⟨x, _, h1, q⟩
  · rintro ⟨x, s', h1, q⟩
    exact ⟨.nx, _, s', by unfold sDrop; rw [h1]; rfl, q⟩
theorem runs_if : Runs (sIf t g h) e s QS ↔ EvB t e s fun a s1 => if a = true then Runs g e s1 QS else Runs h e s1 QS := by
  constructor
  · rintro ⟨fl, e', s', a, q⟩
    unfold sIf at a
    obtain ⟨⟨x, s1⟩, h1, h2⟩ := Option.bind_eq_some_iff.mp a
    refine ⟨x, s1, h1, ?_⟩
    dsimp only at h2
    split at h2
    · rename_i hx; rw [if_pos hx]; exact ⟨fl, e', s', h2, q⟩
    · rename_i hx; rw [if_neg hx]; exact ⟨fl, e', s', h2, q⟩
  · rintro ⟨x, s1, h1, q⟩
    split at q
    · rename_i hx
      obtain ⟨fl, e', s', h2, q⟩ := q
      exact ⟨fl, e', s', by unfold sIf; rw [h1]; show (if _ then _ else _) = _; rw [if_pos hx, h2], q⟩
    · rename_i hx
      obtain ⟨fl, e', s', h2, q⟩ := q
      exact ⟨fl, e', s', by unfold sIf; rw [h1]; show (if _ then _ else _) = _; rw [if_neg hx, h2], q⟩
theorem runs_par {is : List Nat} : Runs (sPar is fs) e s QS ↔ EvA fs e s fun ds s1 => ds.length = is.length ∧ QS .nx (setE e is ds) s1 := by
  constructor
  · rintro ⟨fl, e', s', a, q⟩
    obtain ⟨ds, h1, hl, rfl, rfl⟩ := par_inv a
    exact ⟨ds, _, h1, hl, q⟩
  · rintro ⟨ds, s1, h1, hl, q⟩
    exact ⟨.nx, _, s1, by unfold sPar; rw [h1]; show (if _ then _ else _) = _; rw [if_pos hl], q⟩
theorem runs_asg {b : PyData → Env → Option Env} : Runs (sAsg f b) e s QS ↔ Ev f e s fun d s1 => Gets (b d e) fun e1 => QS .nx e1 s1 := by
  constructor
  · rintro ⟨fl, e', s', a, q⟩
    unfold sAsg at a
    obtain ⟨⟨x, s1⟩, h1, h2⟩ := Option.bind_eq_some_iff.mp a
    obtain ⟨e1, h3, h4⟩ := Option.map_eq_some_iff.mp h2
    cases h4
    exact ⟨x, _, h1, _, h3, q⟩
  · rintro ⟨x, s', h1, e1, h2, q⟩
    exact ⟨.nx, e1, s', by unfold sAsg; rw [h1]; show (b x e).map _ = _; rw [h2]; rfl, q⟩
theorem runs_upd {k : PyData → PyData → Option PyData} : Runs (sUpd i k f) e s QS ↔ Ev f e s fun d s1 => ∃ a, e[i]? = some (some a) ∧ Gets (k a d) fun b => QS .nx (e.set i (some b)) s1 := by
  constructor
  · rintro ⟨fl, e', s', a, q⟩
    obtain ⟨d, a', b, h1, h2, h3, rfl, rfl⟩ := upd_inv a
    exact ⟨d, _, h1, a', h2, b, h3, q⟩
  · rintro ⟨d, s1, h1, a, h2, b, h3, q⟩
    exact ⟨.nx, _, s1, by unfold sUpd; rw [h1]; simp only [Option.bind_some, h2, h3, Option.map_some], q⟩
theorem runs_put {fk fv : Den S} : Runs (sPut i fk fv) e s QS ↔ Ev fv e s fun v s1 => Ev fk e s1 fun k s2 => ∃ a, e[i]? = some (some a) ∧ Gets (putD a k v) fun b => QS .nx (e.set i (some b)) s2 := by
  constructor
  · rintro ⟨fl, e', s', a, q⟩
    obtain ⟨v, s1, k, a', b, h1, h2, h3, h4, rfl, rfl⟩ := put_inv a
    exact ⟨v, s1, h1, k, _, h2, a', h3, b, h4, q⟩
  · rintro ⟨v, s1, h1, k, s2, h2, a, h3, b, h4, q⟩
    exact ⟨.nx, _, s2, by unfold sPut; rw [h1]; simp only [Option.bind_some, h2, h3, h4, Option.map_some], q⟩
theorem runs_for {fs : DenA S} {b : PyData → Env → Option Env} : Runs (sFor fs b g) e s QS ↔ EvA fs e s fun ds s1 => Runs (sForL b g ds) e s1 QS := by
  constructor
  · rintro ⟨fl, e', s', a, q⟩
    unfold sFor at a
    obtain ⟨⟨x, s1⟩, h1, h2⟩ := Option.bind_eq_some_iff.mp a
    exact ⟨x, s1, h1, fl, e', s', h2, q⟩
  · rintro ⟨x, s1, h1, fl, e', s', h2, q⟩
    exact ⟨fl, e', s', by unfold sFor; rw [h1]; exact h2, q⟩
/-- what a turn's end means for a loop -/
def turnQ (QS : Fl → Env → S → Prop) (K : Env → S → Prop) : Fl → Env → S → Prop
  | .nx, e, s => K e s
  | .ct, e, s => K e s
  | .bk, e, s => QS .nx e s
  | .ret d, e, s => QS (.ret d) e s
@[simp] theorem turnQ_nx {K : Env → S → Prop} : turnQ QS K .nx e s = K e s := rfl
@[simp] theorem turnQ_ret {K : Env → S → Prop} {d : PyData} : turnQ QS K (.ret d) e s = QS (.ret d) e s := rfl
@[simp] theorem turnQ_bk {K : Env → S → Prop} : turnQ QS K .bk e s = QS .nx e s := rfl
@[simp] theorem turnQ_ct {K : Env → S → Prop} : turnQ QS K .ct e s = K e s := rfl
theorem runs_forL_nil {b : PyData → Env → Option Env} : Runs (sForL b g []) e s QS ↔ QS .nx e s := ⟨fun ⟨_, _, _, a, q⟩ => by cases a; exact q, fun q => ⟨_, _, _, rfl, q⟩⟩
theorem runs_forL_cons {b : PyData → Env → Option Env} {d : PyData} {ds : List PyData} : Runs (sForL b g (d :: ds)) e s QS ↔ Gets (b d e) fun e0 => Runs g e0 s (turnQ QS fun e1 s1 => Runs (sForL b g ds) e1 s1 QS) := by
  constructor
  · rintro ⟨fl, e', s', a, q⟩
    unfold sForL at a
    obtain ⟨e0, h1, h2⟩ := Option.bind_eq_some_iff.mp a
    obtain ⟨⟨⟨f1, e1⟩, s1⟩, h3, h4⟩ := Option.bind_eq_some_iff.mp h2
    refine ⟨e0, h1, f1, e1, s1, h3, ?_⟩
    cases f1 with
    | nx => exact ⟨fl, e', s', h4, q⟩
    | ct => exact ⟨fl, e', s', h4, q⟩
    | bk => cases h4; exact q
    | ret d => cases h4; exact q
  · rintro ⟨e0, h1, f1, e1, s1, h3, q⟩
    cases f1 with
    | nx => obtain ⟨fl, e', s', h4, q⟩ := q; exact ⟨fl, e', s', by unfold sForL; rw [h1]; show (g e0 s).bind _ = _; rw [h3]; exact h4, q⟩
    | ct => obtain ⟨fl, e', s', h4, q⟩ := q; exact ⟨fl, e', s', by unfold sForL; rw [h1]; show (g e0 s).bind _ = _; rw [h3]; exact h4, q⟩
    | bk => exact ⟨.nx, e1, s1, by unfold sForL; rw [h1]; show (g e0 s).bind _ = _; rw [h3]; rfl, q⟩
    | ret d => exact ⟨.ret d, e1, s1, by unfold sForL; rw [h1]; show (g e0 s).bind _ = _; rw [h3]; rfl, q⟩
/-- a loop with an invariant that counts -/
theorem runs_forL {b : PyData → Env → Option Env} (I : Nat → Env → S → Prop) : ∀ {ds : List PyData} {k : Nat} {e : Env} {s : S}, I k e s → (∀ j d e s, ds[j]? = some d → I (k + j) e s → Gets (b d e) fun e0 => Runs g e0 s (turnQ QS fun e1 s1 => I (k + j + 1) e1 s1)) →
    (∀ e s, I (k + ds.length) e s → QS .nx e s) → Runs (sForL b g ds) e s QS
  | [], k, e, s, h0, _, q => runs_forL_nil.mpr (q e s h0)
  | d :: ds, k, e, s, h0, hb, q => by
    rw [runs_forL_cons]
    obtain ⟨e0, h1, f1, e1, s1, h2, h3⟩ := hb 0 d e s rfl h0
    refine ⟨e0, h1, f1, e1, s1, h2, ?_⟩
    have go : I (k + 0 + 1) e1 s1 → Runs (sForL b g ds) e1 s1 QS := fun hI => runs_forL I (k := k + 1) (by simpa using hI) (fun j d e s hd hI => by
      have := hb (j + 1) d e s hd (by rw [show k + (j + 1) = k + 1 + j by omega]; exact hI)
      rw [show k + (j + 1) + 1 = k + 1 + j + 1 by omega] at this
      exact this) fun e s hI => q e s (by rw [List.length_cons, show k + (ds.length + 1) = k + 1 + ds.length by omega]; exact hI)
    cases f1 with
    | nx => exact go h3
    | ct => exact go h3
    | bk => exact h3
    | ret d => exact h3
theorem runs_while {n : Nat} : Runs (sWhile (n + 1) t g) e s QS ↔ EvB t e s fun k s1 => if k = true then Runs g e s1 (turnQ QS fun e1 s2 => Runs (sWhile n t g) e1 s2 QS) else QS .nx e s1 := by
  constructor
  · rintro ⟨fl, e', s', a, q⟩
    unfold sWhile at a
    obtain ⟨⟨x, s1⟩, h1, h2⟩ := Option.bind_eq_some_iff.mp a
    refine ⟨x, s1, h1, ?_⟩
    dsimp only at h2
    split at h2
    · rename_i hx
      rw [if_pos hx]
      obtain ⟨⟨⟨f1, e1⟩, s2⟩, h3, h4⟩ := Option.bind_eq_some_iff.mp h2
      refine ⟨f1, e1, s2, h3, ?_⟩
      cases f1 with
      | nx => exact ⟨fl, e', s', h4, q⟩
      | ct => exact ⟨fl, e', s', h4, q⟩
      | bk => cases h4; exact q
      | ret d => cases h4; exact q
    · rename_i hx; rw [if_neg hx]; cases h2; exact q
  · rintro ⟨x, s1, h1, q⟩
    split at q
    · rename_i hx
      obtain ⟨f1, e1, s2, h3, q⟩ := q
      cases f1 with
      | nx => obtain ⟨fl, e', s', h4, q⟩ := q; exact ⟨fl, e', s', by unfold sWhile; rw [h1]; show (if _ then _ else _) = _; rw [if_pos hx, h3]; exact h4, q⟩
      | ct => obtain ⟨fl, e', s', h4, q⟩ := q; exact ⟨fl, e', s', by unfold sWhile; rw [h1]; show (if _ then _ else _) = _; rw [if_pos hx, h3]; exact h4, q⟩
      | bk => exact ⟨.nx, e1, s2, by unfold sWhile; rw [h1]; show (if _ then _ else _) = _; rw [if_pos hx, h3]; rfl, q⟩
      | ret d => exact ⟨.ret d, e1, s2, by unfold sWhile; rw [h1]; show (if _ then _ else _) = _; rw [if_pos hx, h3]; rfl, q⟩
    · rename_i hx
      exact ⟨.nx, e, s1, by unfold sWhile; rw [h1]; show (if _ then _ else _) = _; rw [if_neg hx], q⟩
end
theorem runP_of {N : Nat} {g : DenS Unit} {ds : List PyData} {d : PyData} (h : Runs g (ds.map some ++ List.replicate (N - ds.length) none) () fun fl _ _ => fl = .ret d) : runP N g ds = some d := by
  obtain ⟨fl, e', s', a, rfl⟩ := h
  unfold runP
  rw [a]
theorem ok_runP {N : Nat} {g : DenS Unit} {ds : List PyData} {Q : PyData → Prop} (h : Runs g (ds.map some ++ List.replicate (N - ds.length) none) () fun fl _ _ => ∃ d, fl = .ret d ∧ Q d) : Gets (runP N g ds) Q := by
  obtain ⟨fl, e', s', a, d, rfl, q⟩ := h
  exact ⟨d, by unfold runP; rw [a], q⟩
theorem ok_runS {N : Nat} {g : DenS Src} {ds : List PyData} {s : Src} {Q : PyData × Src → Prop} (h : Runs g (none :: ds.map some ++ List.replicate (N - (ds.length + 1)) none) s fun fl _ s' => ∃ d, fl = .ret d ∧ Q (d, s')) : Gets (runS N g ds s) Q := by
  obtain ⟨fl, e', s', a, d, rfl, q⟩ := h
  exact ⟨(d, s'), by unfold runS; rw [a], q⟩
theorem ev_apS {k : List PyData → Src → Option (PyData × Src)} {fs : DenA Src} {e : Env} {s : Src} {Q : PyData → Src → Prop} : Ev (dApS k fs) e s Q ↔ EvA fs e s fun as s1 => Gets (k as s1) fun p => Q p.1 p.2 := by
  constructor
  · rintro ⟨d, s', a, q⟩
    unfold dApS at a
    obtain ⟨⟨x, s1⟩, h1, h2⟩ := Option.bind_eq_some_iff.mp a
    exact ⟨x, s1, h1, (d, s'), h2, q⟩
  · rintro ⟨x, s1, h1, ⟨d, s'⟩, h2, q⟩
    exact ⟨d, s', by unfold dApS; rw [h1]; exact h2, q⟩
theorem ev_src {f : SrcF} {e : Env} {s : Src} {Q : PyData → Src → Prop} : Ev (dSrc f) e s Q ↔ Q (.int (f.get s)) s := ⟨fun ⟨_, _, a, q⟩ => by cases a; exact q, fun q => ⟨_, _, rfl, q⟩⟩
theorem ev_srcLen {e : Env} {s : Src} {Q : PyData → Src → Prop} : Ev dSrcLen e s Q ↔ Q (.int s.cells.length) s := ⟨fun ⟨_, _, a, q⟩ => by cases a; exact q, fun q => ⟨_, _, rfl, q⟩⟩
theorem runs_src {f : SrcF} {g : Den Src} {e : Env} {s : Src} {Q : Fl → Env → Src → Prop} : Runs (sSrc f g) e s Q ↔ Ev g e s fun d s1 => Gets (toI d) fun v => Q .nx e (f.put v s1) := by
  constructor
  · rintro ⟨fl, e', s', a, q⟩
    unfold sSrc at a
    obtain ⟨⟨x, s1⟩, h1, h2⟩ := Option.bind_eq_some_iff.mp a
    dsimp only at h2
    split at h2
    · cases h2; exact ⟨_, _, h1, _, rfl, q⟩
    · cases h2
  · rintro ⟨x, s', h1, d, h2, q⟩
    cases x <;> simp only [toI] at h2 <;> cases h2
    exact ⟨.nx, e, f.put d s', by unfold sSrc; rw [h1]; rfl, q⟩
theorem runs_srcPop {e : Env} {s : Src} {Q : Fl → Env → Src → Prop} : Runs sSrcPop e s Q ↔ ∃ v, s.cells.getLast? = some v ∧ Q .nx e (s.popped v) := by
  constructor
  · rintro ⟨fl, e', s', a, q⟩
    unfold sSrcPop at a
    split at a
    · rename_i v hv; cases a; exact ⟨v, hv, q⟩
    · cases a
  · rintro ⟨v, hv, q⟩
    exact ⟨.nx, e, _, by unfold sSrcPop; rw [hv], q⟩
end DL

set_option Elab.async false
set_option linter.all false
set_option maxRecDepth 100000
namespace DL
open PySem PySem.Spec PyProof.Rows L2

/-! ## draws -/
def dPick1 : DenS Src := sSeq (sWhile 1000 (dBAnd (dB (dBin dGt (dVar 1) (dC (.int 1)))) (dBAnd (dB (dBin dLt (dSrc .left) (dC (.int 2)))) (dB (dBin dGt dSrcLen (dC (.int 0)))))) sSrcPop) (sSeq (sSet 2 (dSrc .left)) (sSeq (sIf (dBOr (dB (dBin dLt (dVar 1) (dC (.int 2)))) (dB (dBin dGt (dVar 2) (dC (.int 1))))) (sSeq (sSrc .left (dBin dDiv (dVar 2) (dApp dMax (dACons (dC (.int 1)) (dACons (dVar 1) dANil))))) (sRet (dBin dMod (dApp dInt (dACons (dVar 2) dANil)) (dApp dMax (dACons (dC (.int 1)) (dACons (dVar 1) dANil)))))) sSkip) (sSeq (sSrc .turn (dBin dAdd (dSrc .turn) (dC (.int 1)))) (sSeq (sSet 3 (dBin dMod (dApp dInt (dACons (dBin dAdd (dSrc .mixed) (dBin dMul (dSrc .turn) (dC (.int 104729)))) dANil)) (dC (.int 998244353)))) (sSeq (sSet 3 (dBin dMod (dApp dInt (dACons (dBin dAdd (dBin dMul (dVar 3) (dVar 3)) (dBin dMul (dSrc .turn) (dC (.int 17)))) dANil)) (dC (.int 2147483647)))) (sSeq (sSrc .mixed (dVar 3)) (sRet (dBin dMod (dApp dInt (dACons (dBin dDiv (dVar 3) (dC (.int 16))) dANil)) (dVar 1)))))))))
theorem pick_while (m : Int) (a b : Option PyData) {QS : Fl → Env → Src → Prop} : ∀ (n : Nat) (s : Src), s.cells.length < n → (∀ s', QS .nx [none, some (.int m), a, b] s') → Runs (sWhile n (dBAnd (dB (dBin dGt (dVar 1) (dC (.int 1)))) (dBAnd (dB (dBin dLt (dSrc .left) (dC (.int 2)))) (dB (dBin dGt dSrcLen (dC (.int 0)))))) sSrcPop) [none, some (.int m), a, b] s QS
  | 0, s, h, _ => by omega
  | n + 1, s, h, q => by
    rw [runs_while]
    simp only [evb_and, evb_b, ev_bin, ev_var, ev_c, ev_src, ev_srcLen, dGt, dLt, ordD, toB, ok_some, List.getElem?_cons_succ, List.getElem?_cons_zero, Option.some.injEq, exists_eq_left']
    split
    · split
      · split
        · rename_i h3
          rw [runs_srcPop]
          have hne : s.cells ≠ [] := fun z => by rw [z] at h3; simp at h3
          obtain ⟨v, hv⟩ : ∃ v, s.cells.getLast? = some v := ⟨_, List.getLast?_eq_some_getLast hne⟩
          refine ⟨v, hv, ?_⟩
          rw [turnQ_nx]
          refine pick_while m a b n _ ?_ q
          show s.cells.dropLast.length < n
          rw [List.length_dropLast]
          have : 0 < s.cells.length := List.length_pos_iff.mpr hne
          omega
        · exact q s
      · exact q s
    · exact q s
theorem fmod_pos {a b : Int} (h : 0 < b) : 0 ≤ a.fmod b ∧ a.fmod b < b := ⟨Int.fmod_nonneg_of_pos a h, Int.fmod_lt_of_pos a h⟩
theorem pick1_ok {m : Int} (hm : m < 1073741824) (s : Src) : Gets (runS 4 dPick1 [.int m] s) fun p => ∃ r : Int, p.1 = .int r ∧ 0 ≤ r ∧ r < max 1 m := by
  have hmax : (0 : Int) < (if m > 1 then m else 1) := by split <;> omega
  have em : (if m > 1 then m else 1) = max 1 m := by rw [Int.max_def]; split <;> split <;> omega
  refine ok_runS ?_
  unfold dPick1
  rw [runs_seq]
  refine pick_while m none none 1000 s (by have := s.small; omega) fun s1 => ?_
  rw [nxt_nx]
  have s64 : small64 998244353 = true := by decide
  have mm : small64 ((s1.mixed + (s1.turn + 1) * 104729).fmod 998244353) = true := by
    rw [small64_iff]
    have := fmod_pos (a := (s1.mixed + (s1.turn + 1) * 104729)) (b := 998244353) (by decide)
    omega
  simp only [runs_seq, runs_set, runs_if, runs_src, runs_ret, runs_skip, evb_or, evb_b, ev_bin, ev_var, ev_c, ev_src, ev_app, eva_cons, eva_nil, dGt, dLt, ordD, toB, toI, ok_some, List.getElem?_cons_succ, List.getElem?_cons_zero, Option.some.injEq, exists_eq_left', List.set_cons_succ, List.set_cons_zero, dMax, dDiv, dMod, dMul, dAdd, dInt, nxt_nx, nxt_ret, ok_if]
  have fin : ∀ l : Int, ((if m > 1 then m else 1) ≠ 0 ∧ (if m > 1 then m else 1).natAbs < 1073741824) ∧ (if m > 1 then m else 1) ≠ 0 ∧ ∃ d, Fl.ret (PyData.int (l.fmod (if m > 1 then m else 1))) = Fl.ret d ∧ ∃ r : Int, d = .int r ∧ 0 ≤ r ∧ r < max 1 m := fun l => by
    have := fmod_pos (a := l) hmax
    exact ⟨⟨by omega, by split <;> omega⟩, by omega, _, rfl, _, rfl, this.1, by rw [← em]; exact this.2⟩
  by_cases h1 : m < 2
  · simp only [h1, decide_true, if_true]
    exact fin _
  · simp only [h1, decide_false, Bool.false_eq_true, if_false]
    by_cases h2 : 1 < SrcF.left.get s1
    · simp only [h2, decide_true, if_true]
      exact fin _
    · simp only [h2, decide_false, Bool.false_eq_true, if_false]
      refine ⟨by rw [Bool.or_eq_true]; exact .inr (by decide), by decide, ?_, by rw [Bool.or_eq_true]; exact .inr (by decide), by decide, ⟨by decide, by decide⟩, by omega, _, rfl, _, rfl, ?_⟩
      · have z : small64 ((SrcF.mixed.get (SrcF.turn.put (SrcF.turn.get s1 + 1) s1) + SrcF.turn.get (SrcF.turn.put (SrcF.turn.get s1 + 1) s1) * 104729).fmod 998244353) = true := mm
        rw [z]; rfl
      · have := fmod_pos (a := ((((SrcF.mixed.get (SrcF.turn.put (SrcF.turn.get s1 + 1) s1) + SrcF.turn.get (SrcF.turn.put (SrcF.turn.get s1 + 1) s1) * 104729).fmod 998244353 * (SrcF.mixed.get (SrcF.turn.put (SrcF.turn.get s1 + 1) s1) + SrcF.turn.get (SrcF.turn.put (SrcF.turn.get s1 + 1) s1) * 104729).fmod 998244353 + SrcF.turn.get (SrcF.turn.put (SrcF.turn.get s1 + 1) s1) * 17).fmod 2147483647).fdiv 16)) (b := m) (by omega)
        rw [Int.max_eq_right (by omega)]
        exact this
theorem gets_imp {α : Type} {o : Option α} {Q Q' : α → Prop} (h : Gets o Q) (m : ∀ a, Q a → Q' a) : Gets o Q' := let ⟨a, e, q⟩ := h; ⟨a, e, m a q⟩

/-! ## comprehensions without state -/
theorem compL_pure {S : Type} {vs : List Nat} {bd : PyData → Env → Option Env} {t : DenB S} {f : Den S} {e : Env} {s : S} (k : PyData → Bool) (g : PyData → PyData) : ∀ {ds : List PyData}, (∀ d ∈ ds, ∃ e1, bd d (wipeE e vs) = some e1 ∧ t e1 s = some (k d, s) ∧ (k d = true → f e1 s = some (g d, s))) →
    compL vs bd t f ds e s = some ((ds.filter k).map g, s)
  | [], _ => rfl
  | d :: ds, h => by
    obtain ⟨e1, h1, h2, h3⟩ := h d List.mem_cons_self
    have ih := compL_pure (S := S) (vs := vs) (bd := bd) (t := t) (f := f) (e := e) (s := s) k g (ds := ds) fun d hd => h d (List.mem_cons_of_mem _ hd)
    unfold compL
    rw [h1]
    show (t e1 s).bind _ = _
    rw [h2]
    show (if k d = true then _ else _) = _
    by_cases q : k d = true
    · rw [if_pos q, h3 q]
      show (compL vs bd t f ds e s).map _ = _
      rw [ih, List.filter_cons_of_pos q]
      rfl
    · rw [if_neg q, ih, List.filter_cons_of_neg q]
/-- comprehensions that draw -/
theorem compL_any {S : Type} {vs : List Nat} {bd : PyData → Env → Option Env} {t : DenB S} {f : Den S} {e : Env} (P : PyData → Prop) : ∀ {ds : List PyData} {s : S}, (∀ d ∈ ds, ∀ s, ∃ e1, bd d (wipeE e vs) = some e1 ∧ ∃ s1, t e1 s = some (true, s1) ∧ Ev f e1 s1 fun d _ => P d) →
    ∃ ys s', compL vs bd t f ds e s = some (ys, s') ∧ ys.length = ds.length ∧ ∀ y ∈ ys, P y
  | [], s, _ => ⟨[], s, rfl, rfl, fun _ h => (by cases h)⟩
  | d :: ds, s, h => by
    obtain ⟨e1, h1, s1, h2, y, s2, h3, hp⟩ := h d List.mem_cons_self s
    obtain ⟨ys, s', h4, h5, h6⟩ := compL_any (S := S) (vs := vs) (bd := bd) (t := t) (f := f) (e := e) P (ds := ds) (s := s2) fun d hd => h d (List.mem_cons_of_mem _ hd)
    refine ⟨y :: ys, s', ?_, by rw [List.length_cons, List.length_cons, h5], fun z hz => ?_⟩
    · simp only [compL, h1, h2, h3, h4, Option.bind_some, Option.map_some, if_true]
    · rcases List.mem_cons.mp hz with rfl | hz
      · exact hp
      · exact h6 z hz
end DL

set_option Elab.async false
set_option linter.all false
set_option maxRecDepth 100000
namespace Rg
variable {α : Type}
def rot (w : List α) (i : Nat) : List α := w.drop i ++ w.take i
def ix (w : List α) (k : Nat) : Option α := w[k % w.length]?
theorem rot_len {w : List α} {i : Nat} : (rot w i).length = w.length := by
  unfold rot; rw [List.length_append, List.length_drop, List.length_take]; omega
theorem rot_zero (w : List α) : rot w 0 = w := by unfold rot; simp
theorem rot_full (w : List α) : rot w w.length = w := by unfold rot; simp
theorem rot_get {w : List α} {i k : Nat} (hi : i ≤ w.length) (hk : k < w.length) : (rot w i)[k]? = ix w (k + i) := by
  unfold rot ix
  by_cases h : k < w.length - i
  · rw [List.getElem?_append_left (by rw [List.length_drop]; exact h), List.getElem?_drop, Nat.mod_eq_of_lt (by omega), Nat.add_comm]
  · rw [List.getElem?_append_right (by rw [List.length_drop]; omega), List.length_drop, List.getElem?_take_of_lt (by omega)]
    congr 1
    have : k + i = (k - (w.length - i)) + w.length := by omega
    rw [this, Nat.add_mod_right, Nat.mod_eq_of_lt (by omega)]
theorem ix_add (w : List α) (k : Nat) : ix w (k + w.length) = ix w k := by unfold ix; rw [Nat.add_mod_right]
theorem ix_mod (w : List α) (k : Nat) : ix w (k % w.length) = ix w k := by unfold ix; rw [Nat.mod_mod]
theorem ix_lt {w : List α} {k : Nat} (h : k < w.length) : ix w k = w[k]? := by unfold ix; rw [Nat.mod_eq_of_lt h]
theorem ix_rot {w : List α} {i : Nat} (hi : i ≤ w.length) (k : Nat) : ix (rot w i) k = ix w (k + i) := by
  rcases Nat.eq_zero_or_pos w.length with h | h
  · have : w = [] := List.length_eq_zero_iff.mp h
    subst this; unfold ix rot; simp
  · rw [← ix_mod (rot w i), rot_len, ix_lt (by rw [rot_len]; exact Nat.mod_lt _ h), rot_get hi (Nat.mod_lt _ h)]
    unfold ix
    rw [Nat.add_mod, Nat.mod_mod, ← Nat.add_mod]
theorem ext_ix {u v : List α} (hl : u.length = v.length) (h : ∀ k, k < u.length → ix u k = ix v k) : u = v := by
  apply List.ext_getElem?
  intro k
  by_cases q : k < u.length
  · rw [← ix_lt q, ← ix_lt (by rw [← hl]; exact q)]; exact h k q
  · rw [List.getElem?_eq_none (by omega), List.getElem?_eq_none (by omega)]
theorem rot_rot {w : List α} {i j : Nat} (hi : i ≤ w.length) (hj : j ≤ w.length) (hij : i + j ≤ w.length) : rot (rot w i) j = rot w (i + j) := by
  refine ext_ix (by rw [rot_len, rot_len, rot_len]) fun k _ => ?_
  rw [ix_rot (by rw [rot_len]; exact hj), ix_rot hi, ix_rot hij]
  congr 1; omega
theorem rot_rot' {w : List α} {i j : Nat} (hi : i ≤ w.length) (hj : j ≤ w.length) (hij : w.length ≤ i + j) : rot (rot w i) j = rot w (i + j - w.length) := by
  refine ext_ix (by rw [rot_len, rot_len, rot_len]) fun k _ => ?_
  rw [ix_rot (by rw [rot_len]; exact hj), ix_rot hi, ix_rot (by omega), ← ix_add w (k + (i + j - w.length))]
  congr 1; omega
/-- a shift that changes nothing -/
def Sh (w : List α) (d : Nat) : Prop := ∀ k, ix w (k + d) = ix w k
theorem sh_iff {w : List α} {d : Nat} (hd : d ≤ w.length) : rot w d = w ↔ Sh w d := by
  constructor
  · intro h k
    rw [← ix_rot hd, h]
  · intro h
    exact ext_ix rot_len fun k _ => by rw [ix_rot hd]; exact h k
theorem Sh.full (w : List α) : Sh w w.length := ix_add w
theorem Sh.zero (w : List α) : Sh w 0 := fun _ => rfl
theorem Sh.add {w : List α} {a b : Nat} (h1 : Sh w a) (h2 : Sh w b) : Sh w (a + b) := fun k => by rw [← Nat.add_assoc, h2, h1]
theorem Sh.mul {w : List α} {a : Nat} (h : Sh w a) (q : Nat) : Sh w (a * q) := by
  induction q with
  | zero => exact Sh.zero w
  | succ q ih => rw [Nat.mul_succ]; exact ih.add h
theorem Sh.sub {w : List α} {a b : Nat} (h1 : Sh w a) (h2 : Sh w b) (h : a ≤ b) : Sh w (b - a) := fun k => by
  rw [← h1, Nat.add_assoc, Nat.sub_add_cancel h, h2]
theorem Sh.mod {w : List α} {a b : Nat} (h1 : Sh w a) (h2 : Sh w b) : Sh w (b % a) := by
  have := (h1.mul (b / a)).sub h2 (Nat.mul_div_le b a)
  rwa [Nat.mod_def]
section
variable [DecidableEq α]
def per (w : List α) : Nat := ((List.range' 1 w.length).find? fun d => decide (rot w d = w)).getD 0
theorem per_spec {w : List α} (h : w ≠ []) : 1 ≤ per w ∧ per w ≤ w.length ∧ rot w (per w) = w ∧ (∀ d, 1 ≤ d → d < per w → rot w d ≠ w) ∧ ((List.range' 1 w.length).find? fun d => decide (rot w d = w)) = some (per w) := by
  have hl : 0 < w.length := List.length_pos_iff.mpr h
  cases q : ((List.range' 1 w.length).find? fun d => decide (rot w d = w)) with
  | none =>
    have := List.find?_eq_none.mp q w.length (List.mem_range'_1.mpr ⟨hl, by omega⟩)
    simp [rot_full] at this
  | some d =>
    have e : per w = d := by unfold per; rw [q]; rfl
    rw [e]
    have h1 := List.find?_some q
    have h2 := List.mem_of_find?_eq_some q
    rw [List.mem_range'_1] at h2
    refine ⟨h2.1, by omega, by simpa using h1, fun d' a b => ?_, rfl⟩
    obtain ⟨_, as, bs, e, hn⟩ := List.find?_eq_some_iff_append.mp q
    have hm : d' ∈ as := by
      have h3 : d' ∈ List.range' 1 w.length := List.mem_range'_1.mpr ⟨a, by omega⟩
      rw [e] at h3
      rcases List.mem_append.mp h3 with h3 | h3
      · exact h3
      · have hp : (List.range' 1 w.length).Pairwise (· < ·) := List.pairwise_lt_range'
        rw [e, List.pairwise_append] at hp
        rcases List.mem_cons.mp h3 with rfl | h3
        · omega
        · have := (List.pairwise_cons.mp hp.2.1).1 d' h3
          omega
    have := hn d' hm
    simpa using this
theorem per_pos {w : List α} (h : w ≠ []) : 1 ≤ per w := (per_spec h).1
theorem per_le {w : List α} (h : w ≠ []) : per w ≤ w.length := (per_spec h).2.1
theorem rot_per {w : List α} (h : w ≠ []) : rot w (per w) = w := (per_spec h).2.2.1
theorem sh_per {w : List α} (h : w ≠ []) : Sh w (per w) := (sh_iff (per_le h)).mp (rot_per h)
theorem sh_dvd {w : List α} (h : w ≠ []) {d : Nat} : Sh w d ↔ per w ∣ d := by
  constructor
  · intro hs
    have hm := (sh_per h).mod hs
    have hlt := Nat.mod_lt d (per_pos h)
    rcases Nat.eq_zero_or_pos (d % per w) with z | z
    · exact Nat.dvd_of_mod_eq_zero z
    · exact absurd ((sh_iff (by have := per_le h; omega)).mpr hm) ((per_spec h).2.2.2.1 _ z hlt)
  · rintro ⟨q, rfl⟩
    exact (sh_per h).mul q
theorem per_dvd {w : List α} (h : w ≠ []) : per w ∣ w.length := (sh_dvd h).mp (Sh.full w)
theorem rot_iff {w : List α} (h : w ≠ []) {d : Nat} (hd : d ≤ w.length) : rot w d = w ↔ per w ∣ d := (sh_iff hd).trans (sh_dvd h)
theorem rot_eq_iff {w : List α} (h : w ≠ []) {i j : Nat} (hij : i ≤ j) (hj : j ≤ w.length) : rot w i = rot w j ↔ per w ∣ (j - i) := by
  rw [← sh_dvd h]
  constructor
  · intro e k
    have : ix (rot w i) (k + (w.length - i)) = ix (rot w j) (k + (w.length - i)) := by rw [e]
    rw [ix_rot (by omega), ix_rot hj, show k + (w.length - i) + i = k + w.length by omega, ix_add, show k + (w.length - i) + j = k + (j - i) + w.length by omega, ix_add] at this
    exact this.symm
  · intro e
    refine ext_ix (by rw [rot_len, rot_len]) fun k _ => ?_
    rw [ix_rot (by omega), ix_rot hj, show k + j = (k + i) + (j - i) by omega, e]
/-- the first one that the law's own looking finds -/
theorem per_of {w : List α} (h : w ≠ []) {p : Nat} (h1 : 1 ≤ p) (h2 : p ≤ w.length) (h3 : rot w p = w) (h4 : ∀ d, 1 ≤ d → d < p → rot w d ≠ w) : per w = p := by
  rcases Nat.lt_trichotomy (per w) p with q | q | q
  · exact absurd (rot_per h) (h4 _ (per_pos h) q)
  · exact q
  · exact absurd h3 ((per_spec h).2.2.2.1 _ h1 q)
theorem per_rot {w : List α} (h : w ≠ []) {i : Nat} (hi : i ≤ w.length) : per (rot w i) = per w := by
  have hr : rot w i ≠ [] := fun z => h (List.length_eq_zero_iff.mp (by rw [← rot_len (i := i), z]; rfl))
  have hs : ∀ d, Sh (rot w i) d ↔ Sh w d := fun d => by
    constructor
    · intro s k
      have := s (k + (w.length - i))
      rw [ix_rot hi, ix_rot hi, show k + (w.length - i) + d + i = k + d + w.length by omega, ix_add, show k + (w.length - i) + i = k + w.length by omega, ix_add] at this
      exact this
    · intro s k
      rw [ix_rot hi, ix_rot hi, show k + d + i = k + i + d by omega, s]
  refine per_of hr (per_pos h) (by rw [rot_len]; exact per_le h) ((sh_iff (by rw [rot_len]; exact per_le h)).mpr ((hs _).mpr (sh_per h))) fun d a b e => ?_
  exact (per_spec h).2.2.2.1 d a b ((sh_iff (by have := per_le h; omega)).mpr ((hs d).mp ((sh_iff (by rw [rot_len]; have := per_le h; omega)).mp e)))
end
/-! ### repeated -/
def rep (m : Nat) (u : List α) : List α := (List.replicate m u).flatten
theorem rep_len {m : Nat} {u : List α} : (rep m u).length = m * u.length := by unfold rep; simp
theorem rep_succ {m : Nat} {u : List α} : rep (m + 1) u = u ++ rep m u := by unfold rep; rw [List.replicate_succ, List.flatten_cons]
theorem rep_get {u : List α} : ∀ {m k : Nat}, k < m * u.length → (rep m u)[k]? = ix u k
  | 0, k, h => by omega
  | m + 1, k, h => by
    rw [rep_succ]
    by_cases q : k < u.length
    · rw [List.getElem?_append_left q, ix_lt q]
    · rw [List.getElem?_append_right (by omega), rep_get (by rw [Nat.succ_mul] at h; omega), ← ix_add]
      congr 1; omega
theorem ix_rep {u : List α} {m : Nat} (hm : 0 < m) (k : Nat) : ix (rep m u) k = ix u k := by
  rcases Nat.eq_zero_or_pos u.length with h | h
  · have : u = [] := List.length_eq_zero_iff.mp h
    subst this
    unfold ix rep; simp
  · have hp : 0 < m * u.length := Nat.mul_pos hm h
    rw [← ix_mod, rep_len, ix_lt (by rw [rep_len]; exact Nat.mod_lt _ hp), rep_get (Nat.mod_lt _ hp)]
    unfold ix
    rw [Nat.mod_mul_left_mod]
theorem rep_rot {u : List α} {m i : Nat} (hm : 0 < m) (hi : i ≤ u.length) : rot (rep m u) i = rep m (rot u i) := by
  refine ext_ix (by rw [rot_len, rep_len, rep_len, rot_len]) fun k _ => ?_
  rw [ix_rot (by rw [rep_len]; exact Nat.le_trans hi (Nat.le_mul_of_pos_left _ hm)), ix_rep hm, ix_rep hm, ix_rot hi]
theorem rep_iff {w : List α} {d : Nat} (hd : 0 < d) (hw : 0 < w.length) (hdv : d ∣ w.length) : rep (w.length / d) (w.take d) = w ↔ Sh w d := by
  have hle : d ≤ w.length := Nat.le_of_dvd hw hdv
  have hl : (w.take d).length = d := by rw [List.length_take]; omega
  have hm : 0 < w.length / d := Nat.div_pos hle hd
  have hlen : (rep (w.length / d) (w.take d)).length = w.length := by rw [rep_len, hl]; exact Nat.div_mul_cancel hdv
  have ht : ∀ k, ix (w.take d) k = ix w (k % d) := fun k => by
    have hk := Nat.mod_lt k hd
    rw [ix_lt (w := w) (by omega)]
    unfold ix
    rw [hl, List.getElem?_take_of_lt hk]
  constructor
  · intro e k
    rw [← e, ix_rep hm, ix_rep hm]
    rw [ht, ht, Nat.add_mod_right]
  · intro s
    refine ext_ix hlen fun k _ => ?_
    rw [ix_rep hm, ht]
    have := (s.mul (k / d)) (k % d)
    rw [Nat.mod_add_div] at this
    exact this.symm
end Rg

set_option Elab.async false
set_option linter.all false
set_option maxRecDepth 100000
namespace DL
open PySem PySem.Spec PyProof.Rows L2
/-! ## words of whole numbers as data -/
def tw (xs : List Int) : PyData := .tuple (xs.map .int)
def ilt : List Int → List Int → Bool
  | [], [] => false
  | [], _ :: _ => true
  | _ :: _, [] => false
  | x :: xs, y :: ys => decide (x < y) || (x == y && ilt xs ys)
theorem ilt_irrefl : ∀ xs, ilt xs xs = false
  | [] => rfl
  | x :: xs => by unfold ilt; rw [ilt_irrefl xs]; simp
theorem ilt_cons {x y : Int} {xs ys : List Int} : ilt (x :: xs) (y :: ys) = true ↔ x < y ∨ (x = y ∧ ilt xs ys = true) := by
  show (decide (x < y) || (x == y && ilt xs ys)) = true ↔ _
  simp
theorem ilt_trans : ∀ {xs ys zs : List Int}, ilt xs ys = true → ilt ys zs = true → ilt xs zs = true
  | [], [], _, h, _ => by cases h
  | [], _ :: _, [], _, h => by cases h
  | [], _ :: _, _ :: _, _, _ => rfl
  | _ :: _, [], _, h, _ => by cases h
  | _ :: _, _ :: _, [], _, h => by cases h
  | x :: xs, y :: ys, z :: zs, h1, h2 => by
    rw [ilt_cons] at h1 h2 ⊢
    rcases h1 with h1 | ⟨rfl, h1⟩
    · rcases h2 with h2 | ⟨rfl, h2⟩
      · exact .inl (by omega)
      · exact .inl h1
    · rcases h2 with h2 | ⟨rfl, h2⟩
      · exact .inl h2
      · exact .inr ⟨rfl, ilt_trans h1 h2⟩
theorem ilt_total : ∀ {xs ys : List Int}, ilt xs ys = false → ilt ys xs = false → xs = ys
  | [], [], _, _ => rfl
  | [], _ :: _, h, _ => by cases h
  | _ :: _, [], _, h => by cases h
  | x :: xs, y :: ys, h1, h2 => by
    have h1' : ¬ ilt (x :: xs) (y :: ys) = true := by rw [h1]; simp
    have h2' : ¬ ilt (y :: ys) (x :: xs) = true := by rw [h2]; simp
    rw [ilt_cons] at h1' h2'
    have e : x = y := by omega
    subst e
    rw [ilt_total (xs := xs) (ys := ys) (by cases q : ilt xs ys with | false => rfl | true => exact absurd (.inr ⟨rfl, q⟩) h1') (by cases q : ilt ys xs with | false => rfl | true => exact absurd (.inr ⟨rfl, q⟩) h2')]
theorem ilt_asymm {xs ys : List Int} (h : ilt xs ys = true) : ilt ys xs = false := by
  cases q : ilt ys xs with
  | false => rfl
  | true => have := ilt_trans h q; rw [ilt_irrefl] at this; cases this
theorem ilt_app : ∀ {us vs : List Int} (xs ys : List Int), us.length = vs.length → ilt us vs = true → ilt (us ++ xs) (vs ++ ys) = true
  | [], [], _, _, _, h => by cases h
  | u :: us, v :: vs, xs, ys, hl, h => by
    rw [List.cons_append, List.cons_append, ilt_cons]
    rw [ilt_cons] at h
    rcases h with h | ⟨rfl, h⟩
    · exact .inl h
    · exact .inr ⟨rfl, ilt_app xs ys (Nat.succ.inj hl) h⟩
theorem ilt_rep {us vs : List Int} {m : Nat} (hm : 0 < m) (hl : us.length = vs.length) (h : ilt us vs = true) : ilt (Rg.rep m us) (Rg.rep m vs) = true := by
  obtain ⟨k, rfl⟩ : ∃ k, m = k + 1 := ⟨m - 1, by omega⟩
  rw [Rg.rep_succ, Rg.rep_succ]
  exact ilt_app _ _ hl h
theorem toks_ilt : ∀ xs ys : List Int, PyProof.Rows.lexLt PyProof.Rows.itemOrd (PySem.W.keyToksAll (xs.map PyData.int)) (PySem.W.keyToksAll (ys.map PyData.int)) = ilt xs ys
  | [], [] => rfl
  | [], y :: ys => by
    rw [List.map_nil, List.map_cons, PySem.W.toks_all_cons]
    exact (PyProof.Rows.lex_diff (O := PyProof.Rows.itemOrd) (by simp)).trans rfl
  | x :: xs, [] => by
    rw [List.map_nil, List.map_cons, PySem.W.toks_all_cons]
    exact (PyProof.Rows.lex_diff (O := PyProof.Rows.itemOrd) (by simp)).trans rfl
  | x :: xs, y :: ys => by
    rw [List.map_cons, List.map_cons, PySem.W.toks_all_cons, PySem.W.toks_all_cons]
    refine (PyProof.Rows.lex_self (O := PyProof.Rows.itemOrd) _ _ _).trans ?_
    show PyProof.Rows.lexLt PyProof.Rows.itemOrd (Sum.inl x :: PySem.W.keyToksAll (xs.map PyData.int)) (Sum.inl y :: PySem.W.keyToksAll (ys.map PyData.int)) = _
    by_cases e : x = y
    · subst e
      rw [PyProof.Rows.lex_self (O := PyProof.Rows.itemOrd), toks_ilt xs ys]
      show _ = (decide (x < x) || (x == x && ilt xs ys))
      simp
    · rw [PyProof.Rows.lex_diff (O := PyProof.Rows.itemOrd) (by simpa using e)]
      show decide (x < y) = _
      show _ = (decide (x < y) || (x == y && ilt xs ys))
      simp [e]
theorem lt_tw (xs ys : List Int) : PySem.W.dataLt (tw xs) (tw ys) = ilt xs ys := by
  unfold PySem.W.dataLt tw
  exact toks_ilt xs ys
theorem alike_ints : ∀ xs ys : List Int, PySem.W.alikeAll (xs.map PyData.int) (ys.map PyData.int) = true
  | [], _ => by unfold PySem.W.alikeAll; rfl
  | _ :: _, [] => by rw [List.map_cons, List.map_nil]; unfold PySem.W.alikeAll; rfl
  | x :: xs, y :: ys => by
    rw [List.map_cons, List.map_cons]; unfold PySem.W.alikeAll
    rw [alike_ints xs ys]; rfl
theorem alike_tw (xs ys : List Int) : PySem.W.alike (tw xs) (tw ys) = true := by unfold tw PySem.W.alike; exact alike_ints xs ys
theorem eqv_ints : ∀ xs ys : List Int, PyData.eqvAll (xs.map PyData.int) (ys.map PyData.int) = decide (xs = ys)
  | [], [] => by unfold PyData.eqvAll; rfl
  | [], y :: ys => by rw [List.map_cons, List.map_nil]; unfold PyData.eqvAll; simp
  | x :: xs, [] => by rw [List.map_cons, List.map_nil]; unfold PyData.eqvAll; simp
  | x :: xs, y :: ys => by
    rw [List.map_cons, List.map_cons]; unfold PyData.eqvAll
    rw [eqv_ints xs ys]
    unfold PyData.eqv
    by_cases e : x = y <;> simp [e]
theorem eqv_tw (xs ys : List Int) : PyData.eqv (tw xs) (tw ys) = decide (xs = ys) := by unfold tw PyData.eqv; exact eqv_ints xs ys
theorem lay_ints : ∀ xs : List Int, PyData.canLayAll0 (xs.map PyData.int) = true
  | [] => by unfold PyData.canLayAll0; rfl
  | x :: xs => by rw [List.map_cons]; unfold PyData.canLayAll0; rw [lay_ints xs]; rfl
theorem depth_ints : ∀ xs : List Int, PyData.depthAll (xs.map PyData.int) ≤ 0
  | [] => Nat.le_refl _
  | x :: xs => by
    show max (PyData.depth (.int x)) (PyData.depthAll (xs.map PyData.int)) ≤ 0
    have := depth_ints xs
    have h : PyData.depth (.int x) = 0 := by first | rfl | decide | simp [PyData.depth]
    omega
theorem shaped_tw (xs : List Int) : SeqAt.shaped (tw xs) = true := by
  unfold SeqAt.shaped tw
  rw [Bool.and_eq_true, decide_eq_true_eq]
  refine ⟨by unfold PyData.canLay0; exact lay_ints xs, ?_⟩
  have := depth_ints xs
  unfold PyData.depth
  omega
theorem shaped_int (i : Int) : SeqAt.shaped (.int i) = true := by
  unfold SeqAt.shaped
  rw [Bool.and_eq_true, decide_eq_true_eq]
  exact ⟨rfl, by show PyData.depth (.int i) ≤ 64; have h : PyData.depth (.int i) = 0 := by { first | rfl | decide | simp [PyData.depth] }; omega⟩
theorem shaped_bool (i : Bool) : SeqAt.shaped (.bool i) = true := by cases i <;> rfl
theorem shaped_list {ds : List PyData} (h : ∀ d ∈ ds, PyData.canLay0 d = true ∧ d.depth ≤ 60) : SeqAt.shaped (.list ds) = true ∧ SeqAt.shaped (.tuple ds) = true := by
  have h1 := canLayAll_of fun d hd => (h d hd).1
  have h2 := depthAll_le fun d hd => (h d hd).2
  unfold SeqAt.shaped
  rw [Bool.and_eq_true, Bool.and_eq_true, decide_eq_true_eq, decide_eq_true_eq]
  refine ⟨⟨by unfold PyData.canLay0; exact h1, ?_⟩, ⟨by unfold PyData.canLay0; exact h1, ?_⟩⟩ <;> (unfold PyData.depth; omega)
/-! ### the least of some words -/
def lmin (x : List Int) (xs : List (List Int)) : List Int := xs.foldl (fun a y => if ilt y a = true then y else a) x
theorem minD_tw (x : List Int) (xs : List (List Int)) : PySem.W.minD (tw x) (xs.map tw) = tw (lmin x xs) := by
  unfold PySem.W.minD lmin
  induction xs generalizing x with
  | nil => rfl
  | cons y ys ih =>
    rw [List.map_cons, List.foldl_cons, List.foldl_cons, ← ih, lt_tw]
    by_cases q : ilt y x = true
    · rw [if_pos q, if_pos q]
    · rw [if_neg q, if_neg q]
theorem lmin_mem (x : List Int) (xs : List (List Int)) : lmin x xs ∈ x :: xs := by
  unfold lmin
  induction xs generalizing x with
  | nil => simp
  | cons y ys ih =>
    rw [List.foldl_cons]
    have := ih (if ilt y x = true then y else x)
    split at this <;> rename_i q
    · rw [if_pos q]; exact List.mem_cons_of_mem _ this
    · rw [if_neg q]
      rcases List.mem_cons.mp this with e | e
      · rw [e]; exact List.mem_cons_self
      · exact List.mem_cons_of_mem _ (List.mem_cons_of_mem _ e)
theorem lmin_le (x : List Int) (xs : List (List Int)) : ∀ y ∈ x :: xs, ilt y (lmin x xs) = false := by
  unfold lmin
  induction xs generalizing x with
  | nil => intro y hy; cases List.mem_singleton.mp hy; exact ilt_irrefl _
  | cons z zs ih =>
    intro y hy
    rw [List.foldl_cons]
    have key : ∀ a b : List Int, ilt a b = false → (∀ c, ilt b c = false → ilt a c = false) := fun a b h c hc => by
      cases q : ilt a c with
      | false => rfl
      | true =>
        cases q2 : ilt b a with
        | true => have := ilt_trans q2 q; rw [hc] at this; cases this
        | false => have e := ilt_total h q2; subst e; rw [hc] at q; cases q
    by_cases q : ilt z x = true
    · rw [if_pos q]
      have hz := ih z z List.mem_cons_self
      rcases List.mem_cons.mp hy with rfl | hy
      · exact key _ z (ilt_asymm q) _ hz
      · exact ih z y hy
    · rw [if_neg q]
      have hx := ih x x List.mem_cons_self
      rcases List.mem_cons.mp hy with rfl | hy
      · exact hx
      · rcases List.mem_cons.mp hy with rfl | hy
        · exact key _ x (by simpa using q) _ hx
        · exact ih x y (List.mem_cons_of_mem _ hy)
theorem lmin_of {x : List Int} {xs : List (List Int)} {m : List Int} (h1 : m ∈ x :: xs) (h2 : ∀ y ∈ x :: xs, ilt y m = false) : lmin x xs = m :=
  ilt_total (h2 _ (lmin_mem x xs)) (lmin_le x xs m h1)
theorem bestOk_tw (xs : List (List Int)) : bestOk (xs.map tw) = true := by
  unfold bestOk
  rw [Bool.and_eq_true, List.all_eq_true, List.all_eq_true]
  refine ⟨fun d hd => List.all_eq_true.mpr fun d' hd' => ?_, fun d hd => ?_⟩
  · obtain ⟨a, _, rfl⟩ := List.mem_map.mp hd
    obtain ⟨b, _, rfl⟩ := List.mem_map.mp hd'
    exact alike_tw a b
  · obtain ⟨a, _, rfl⟩ := List.mem_map.mp hd
    rw [shaped_tw]; rfl
theorem dMin_tw (x : List Int) (xs : List (List Int)) : dMin [.list ((x :: xs).map tw)] = some (tw (lmin x xs)) := by
  show (itemsD (.list ((x :: xs).map tw))).bind minL = _
  show minL (tw x :: xs.map tw) = _
  show (if bestOk (tw x :: xs.map tw) = true then _ else _) = _
  rw [if_pos (by rw [← List.map_cons]; exact bestOk_tw (x :: xs)), minD_tw]
end DL

set_option Elab.async false
set_option linter.all false
set_option maxRecDepth 100000
namespace DL
open PySem PySem.Spec PyProof.Rows L2
/-! ## comprehensions over numbers -/
section
variable {S : Type} {vs : List Nat} {bd : PyData → Env → Option Env} {t : DenB S} {f : Den S} {e : Env} {s : S}
theorem ev_eq {a : PyData} (h : Ev f e s fun d s' => d = a ∧ s' = s) : f e s = some (a, s) := by
  obtain ⟨d, s', h, rfl, rfl⟩ := h; exact h
theorem evb_eq {a : Bool} (h : EvB t e s fun d s' => d = a ∧ s' = s) : t e s = some (a, s) := by
  obtain ⟨d, s', h, rfl, rfl⟩ := h; exact h
theorem filter_map_rng (k : Nat → Bool) (g : Nat → PyData) (k' : PyData → Bool) (g' : PyData → PyData) (lo : Int) : ∀ l : List Nat, (∀ j ∈ l, k' (.int (lo + j)) = k j ∧ g' (.int (lo + j)) = g j) →
    ((l.map fun (j : Nat) => PyData.int (lo + (j : Int))).filter k').map g' = (l.filter k).map g
  | [], _ => rfl
  | j :: l, h => by
    have ih := filter_map_rng k g k' g' lo l fun i hi => h i (List.mem_cons_of_mem _ hi)
    obtain ⟨h1, h2⟩ := h j List.mem_cons_self
    rw [List.map_cons, List.filter_cons, List.filter_cons, h1]
    cases k j with
    | true => simp only [if_true, List.map_cons]; rw [ih, h2]
    | false => simp only [Bool.false_eq_true, if_false]; exact ih
def natOf : PyData → Int
  | .int i => i
  | _ => 0
theorem comp_rng (k : Nat → Bool) (g : Nat → PyData) {lo : Int} {n : Nat} (h : ∀ j, j < n → ∃ e1, bd (.int (lo + (j : Int))) (wipeE e vs) = some e1 ∧ EvB t e1 s (fun b s' => b = k j ∧ s' = s) ∧ (k j = true → Ev f e1 s fun d s' => d = g j ∧ s' = s)) :
    compL vs bd t f (rng lo n) e s = some (((List.range n).filter k).map g, s) := by
  have := compL_pure (S := S) (vs := vs) (bd := bd) (t := t) (f := f) (e := e) (s := s) (fun d => k (natOf d - lo).toNat) (fun d => g (natOf d - lo).toNat) (ds := rng lo n) fun d hd => by
    unfold rng at hd
    obtain ⟨j, hj, rfl⟩ := List.mem_map.mp hd
    obtain ⟨e1, h1, h2, h3⟩ := h j (List.mem_range.mp hj)
    have ej : (natOf (.int (lo + (j : Int))) - lo).toNat = j := by show (lo + (j : Int) - lo).toNat = j; omega
    rw [ej]
    exact ⟨e1, h1, evb_eq h2, fun q => ev_eq (h3 q)⟩
  rw [this]
  congr 2
  unfold rng
  refine filter_map_rng k g _ _ lo _ fun j _ => ?_
  have ej : (natOf (.int (lo + (j : Int))) - lo).toNat = j := by show (lo + (j : Int) - lo).toNat = j; omega
  rw [ej]
  exact ⟨rfl, rfl⟩
theorem comp_items (k : PyData → Bool) (g : PyData → PyData) {ds : List PyData} (h : ∀ d ∈ ds, ∃ e1, bd d (wipeE e vs) = some e1 ∧ EvB t e1 s (fun b s' => b = k d ∧ s' = s) ∧ (k d = true → Ev f e1 s fun d' s' => d' = g d ∧ s' = s)) :
    compL vs bd t f ds e s = some ((ds.filter k).map g, s) :=
  compL_pure k g fun d hd => by
    obtain ⟨e1, h1, h2, h3⟩ := h d hd
    exact ⟨e1, h1, evb_eq h2, fun q => ev_eq (h3 q)⟩
end
theorem range1_nat {n : Nat} (h : n ≤ 1000000) : range1 (.int (n : Int)) = some (rng 0 n) := by
  simp only [range1]
  rw [if_pos ⟨by omega, by omega⟩, Int.toNat_natCast]
theorem range2_nat {a n : Nat} (ha : a ≤ 1000000) (h : n ≤ 1000000) : range2 (.int (a : Int)) (.int (n : Int)) = some (rng a (n - a)) := by
  simp only [range2]
  rw [if_pos ⟨by omega, by omega, by omega, by omega⟩]
  congr 2; omega

/-! ## slices of words -/
theorem cut_drop (ds : List PyData) (j : Nat) : cutD ds (some (j : Int)) none = ds.drop j := by
  unfold cutD
  rw [HT.sIx_nat, HT.sIx_none]
  by_cases h : j ≤ ds.length
  · rw [Nat.min_eq_left h, List.take_of_length_le (by rw [List.length_drop]; exact Nat.le_refl _)]
  · rw [List.drop_eq_nil_of_le (as := ds) (i := j) (by omega), Nat.min_eq_right (by omega), Nat.sub_self, List.take_zero]
theorem cut_take (ds : List PyData) (j : Nat) : cutD ds none (some (j : Int)) = ds.take j := by
  unfold cutD
  rw [HT.sIx_none, HT.sIx_nat, List.drop_zero, Nat.sub_zero]
  by_cases h : j ≤ ds.length
  · rw [Nat.min_eq_left h]
  · rw [Nat.min_eq_right (by omega), List.take_of_length_le (Nat.le_refl _), List.take_of_length_le (by omega)]
theorem sl_drop (w : List Int) (j : Nat) : slD (tw w) (some (j : Int)) none = some (tw (w.drop j)) := by
  simp only [tw, slD]; rw [cut_drop, List.map_drop]
theorem sl_take (w : List Int) (j : Nat) : slD (tw w) none (some (j : Int)) = some (tw (w.take j)) := by
  simp only [tw, slD]; rw [cut_take, List.map_take]
theorem add_tw {u v : List Int} (h : u.length + v.length ≤ 1000000) : dAdd (tw u) (tw v) = some (tw (u ++ v)) := by
  simp only [tw, dAdd]
  rw [if_pos (by rw [List.length_map, List.length_map, sizeLine_eq]; omega), List.map_append]
theorem len_tw (w : List Int) : dLen [tw w] = some (.int (w.length : Int)) := by
  simp only [tw, dLen]; rw [List.length_map]
theorem eq_tw (u v : List Int) : dEq (tw u) (tw v) = some (.bool (decide (u = v))) := by
  show (if SeqAt.shaped (tw u) = true ∧ SeqAt.shaped (tw v) = true then some (PyData.bool (PyData.eqv (tw u) (tw v))) else none) = _
  rw [if_pos ⟨shaped_tw u, shaped_tw v⟩, eqv_tw]
theorem ne_tw (u v : List Int) : dNe (tw u) (tw v) = some (.bool (!decide (u = v))) := by
  show (if SeqAt.shaped (tw u) = true ∧ SeqAt.shaped (tw v) = true then some (PyData.bool (!PyData.eqv (tw u) (tw v))) else none) = _
  rw [if_pos ⟨shaped_tw u, shaped_tw v⟩, eqv_tw]
theorem eqI (u v : Int) : dEq (.int u) (.int v) = some (.bool (decide (u = v))) := by
  show (if SeqAt.shaped (.int u) = true ∧ SeqAt.shaped (.int v) = true then some (PyData.bool (PyData.eqv (.int u) (.int v))) else none) = _
  rw [if_pos ⟨shaped_int u, shaped_int v⟩]
  show some (PyData.bool (PyData.eqv (.int u) (.int v))) = _
  unfold PyData.eqv
  by_cases h : u = v <;> simp [h]
theorem neI (u v : Int) : dNe (.int u) (.int v) = some (.bool (!decide (u = v))) := by
  show (if SeqAt.shaped (.int u) = true ∧ SeqAt.shaped (.int v) = true then some (PyData.bool (!PyData.eqv (.int u) (.int v))) else none) = _
  rw [if_pos ⟨shaped_int u, shaped_int v⟩]
  show some (PyData.bool (!PyData.eqv (.int u) (.int v))) = _
  unfold PyData.eqv
  by_cases h : u = v <;> simp [h]
theorem eqB (u v : Bool) : dEq (.bool u) (.bool v) = some (.bool (decide (u = v))) := by cases u <;> cases v <;> rfl
theorem neB (u v : Bool) : dNe (.bool u) (.bool v) = some (.bool (!decide (u = v))) := by cases u <;> cases v <;> rfl
theorem rep_tw {u : List Int} {k : Nat} (hk : k ≤ 1000) (hu : u.length ≤ 1000) : dMul (tw u) (.int (k : Int)) = some (tw (Rg.rep k u)) := by
  simp only [tw, dMul]
  rw [if_pos ⟨by omega, by omega, by rw [List.length_map]; exact hu⟩]
  unfold repL Rg.rep
  rw [Int.toNat_natCast, List.map_flatten, List.map_replicate]
theorem list_ix {ds : List PyData} {j : Nat} {d : PyData} (h : ds[j]? = some d) : ixD (.list ds) (.int (j : Int)) = some d := by
  simp only [ixD, asDict, itemsD]
  exact atI_nat h
theorem neS (x y : Str) : dNe (.str x) (.str y) = some (.bool (!decide (x = y))) := rfl
theorem eqS (x y : Str) : dEq (.str x) (.str y) = some (.bool (decide (x = y))) := rfl
end DL

set_option Elab.async false
set_option linter.all false
set_option maxRecDepth 100000
namespace DL
open PySem PySem.Spec PyProof.Rows L2
/-! ## what can be shown -/
structure Rok (c k : Nat) (d : PyData) : Prop where
  sh : d.showable = true
  lay : d.canLay0 = true
  dep : d.depth ≤ k
  cst : cost d ≤ c
theorem Rok.mono {c k c' k' : Nat} {d : PyData} (h : Rok c k d) (a : c ≤ c') (b : k ≤ k') : Rok c' k' d := ⟨h.sh, h.lay, Nat.le_trans h.dep b, Nat.le_trans h.cst a⟩
theorem rok_none : Rok 600 0 .none := ⟨by unfold PyData.showable; rfl, by unfold PyData.canLay0; rfl, by unfold PyData.depth; exact Nat.le_refl _, by unfold cost; omega⟩
theorem rok_bool (b : Bool) : Rok 600 0 (.bool b) := ⟨by unfold PyData.showable; rfl, by unfold PyData.canLay0; rfl, by unfold PyData.depth; exact Nat.le_refl _, by unfold cost; omega⟩
theorem rok_int {i : Int} (h : small64 i = true) : Rok 600 0 (.int i) := by
  rw [small64_iff] at h
  refine ⟨?_, by unfold PyData.canLay0; rfl, by unfold PyData.depth; exact Nat.le_refl _, by unfold cost; omega⟩
  unfold PyData.showable
  rw [decide_eq_true_eq]
  by_cases z : i.natAbs = 0
  · rw [z]; decide
  · have h2 : i.natAbs < 2 ^ 64 := by omega
    have := (Nat.log2_lt z).mpr h2
    omega
theorem showAll : ∀ {ds : List PyData}, (∀ d ∈ ds, d.showable = true) → PyData.showableAll ds = true
  | [], _ => by unfold PyData.showableAll; rfl
  | d :: ds, h => by unfold PyData.showableAll; rw [h d List.mem_cons_self, showAll fun e he => h e (List.mem_cons_of_mem _ he)]; rfl
theorem costs_le {c : Nat} : ∀ {ds : List PyData}, (∀ d ∈ ds, cost d ≤ c) → costs ds ≤ ds.length * (c + 2)
  | [], _ => by unfold costs; omega
  | d :: ds, h => by
    unfold costs
    have h1 := h d List.mem_cons_self
    have h2 := costs_le fun e he => h e (List.mem_cons_of_mem _ he)
    rw [List.length_cons, Nat.succ_mul]
    omega
theorem rok_all {c k n : Nat} {ds : List PyData} (h : ∀ d ∈ ds, Rok c k d) (hn : ds.length ≤ n) : Rok (n * (c + 2) + 4) (k + 1) (.list ds) ∧ Rok (n * (c + 2) + 4) (k + 1) (.tuple ds) := by
  have h1 := showAll fun d hd => (h d hd).sh
  have h2 := canLayAll_of fun d hd => (h d hd).lay
  have h3 := depthAll_le fun d hd => (h d hd).dep
  have h4 := costs_le fun d hd => (h d hd).cst
  have h5 : ds.length * (c + 2) ≤ n * (c + 2) := Nat.mul_le_mul_right _ hn
  refine ⟨⟨by unfold PyData.showable; exact h1, by unfold PyData.canLay0; exact h2, by unfold PyData.depth; omega, by unfold cost; omega⟩, ⟨by unfold PyData.showable; exact h1, by unfold PyData.canLay0; exact h2, by unfold PyData.depth; omega, by unfold cost; omega⟩⟩
theorem rok_tw {w : List Int} {n : Nat} (h : ∀ x ∈ w, small64 x = true) (hn : w.length ≤ n) : Rok (n * 602 + 4) 1 (tw w) := by
  refine (rok_all (c := 600) (k := 0) (fun d hd => ?_) (by rw [List.length_map]; exact hn)).2
  obtain ⟨x, hx, rfl⟩ := List.mem_map.mp hd
  exact rok_int (h x hx)
theorem Rok.repr {c k : Nat} {d : PyData} (h : Rok c k d) (hc : c ≤ 16777216) (hk : k ≤ 64) : dRepr [d] = some (.str d.shown) := by
  unfold dRepr
  have : reprOk d = true := by
    unfold reprOk SeqAt.shaped
    rw [h.sh, h.lay, Bool.true_and, Bool.true_and, Bool.and_eq_true, decide_eq_true_eq, decide_eq_true_eq]
    exact ⟨Nat.le_trans h.dep hk, Nat.le_trans h.cst hc⟩
  simp only [this, if_true]
end DL

set_option Elab.async false
set_option linter.all false
set_option maxRecDepth 100000
namespace DL
open PySem PySem.Spec PyProof.Rows L2
theorem ev_pick1 {k : List PyData → Src → Option (PyData × Src)} {f : Den Src} {e : Env} {s : Src} {Q : PyData → Src → Prop} {m : Int} (hk : k = runS 4 dPick1) (h : Ev f e s fun d _ => d = .int m) (hm : m < 1073741824) (q : ∀ r s', 0 ≤ r → r < max 1 m → Q (.int r) s') : Ev (dApS k (dACons f dANil)) e s Q := by
  subst hk
  simp only [runs_seq, runs_set, runs_if, runs_ret, runs_skip, runs_drop, runs_par, runs_asg, runs_for, runs_upd, evb_b, evb_and, evb_or, evb_not, evb_true, ev_c, ev_var, ev_un, ev_bin, ev_app, ev_apS, ev_tup, ev_lst, ev_and, ev_or, ev_not, ev_if, ev_chain, ev_sl, ev_comp, eva_nil, eva_cons, eva_items, eva_range1, eva_range2, evo_none, evo_some, ok_some, ok_none, nxt_nx, nxt_ret, nxt_bk, nxt_ct, turnQ_nx, turnQ_ret, turnQ_bk, turnQ_ct, List.getElem?_cons_succ, List.getElem?_cons_zero, List.set_cons_succ, List.set_cons_zero, Option.some.injEq, exists_eq_left', exists_eq_left, setE, toB, toI, wipeE, bNm, itemsD]
  obtain ⟨d, s1, h1, rfl⟩ := h
  refine ⟨_, s1, h1, ?_⟩
  obtain ⟨p, h2, r, h3, h4, h5⟩ := pick1_ok hm s1
  exact ⟨p, h2, by show Q p.1 p.2; rw [h3]; exact q r p.2 h4 h5⟩
/-! ## a dict that counts words -/
def kw (t : List Int) : PyData × PyData := (tw t, .int 0)
def dd : List (List Int) → List (List Int) → List (List Int)
  | acc, [] => acc
  | acc, t :: ts => dd (if t ∈ acc then acc else acc ++ [t]) ts
theorem toKs_ints : ∀ xs : List Int, toKs (xs.map PyData.int) = some (xs.map Sum.inl)
  | [] => rfl
  | x :: xs => by
    show (toK (.int x)).bind _ = _
    show (toKs (xs.map PyData.int)).map _ = _
    rw [toKs_ints xs]; rfl
theorem keyOk_tw (t : List Int) : keyOk true (tw t) = true := by
  show (toKs (t.map PyData.int)).isSome = true
  rw [toKs_ints]; rfl
theorem keyOk_tw' (t : List Int) : keyOk false (tw t) = false := rfl
theorem keyEq_tw (a b : List Int) : keyEq (tw a) (tw b) = decide (a = b) := by
  have e : ∀ t : List Int, tw t = .tuple ((t.map (Sum.inl : Int → Key)).map kD) := fun t => by
    unfold tw; rw [List.map_map]; rfl
  rw [e a, e b, keyEq_t]
  rw [Bool.eq_iff_iff, decide_eq_true_eq, decide_eq_true_eq]
  constructor
  · intro h
    have h2 := congrArg (List.map (fun k : Key => match k with | .inl i => i | .inr _ => 0)) h
    rw [List.map_map, List.map_map] at h2
    have hi : ((fun k : Key => match k with | .inl i => i | .inr _ => 0) ∘ (Sum.inl : Int → Key)) = id := rfl
    rw [hi, List.map_id, List.map_id] at h2
    exact h2
  · rintro rfl; rfl
theorem dput_kw (acc : List (List Int)) (t : List Int) : dput (acc.map kw) (tw t) (.int 0) = (if t ∈ acc then acc else acc ++ [t]).map kw := by
  have h1 : ((acc.map kw).any fun p => keyEq p.1 (tw t)) = decide (t ∈ acc) := by
    induction acc with
    | nil => simp
    | cons a as ih =>
      rw [List.map_cons, List.any_cons, ih]
      show (keyEq (tw a) (tw t) || _) = _
      rw [keyEq_tw]
      by_cases e : a = t
      · subst e; simp
      · simp [e, Ne.symm e]
  unfold dput
  rw [h1]
  by_cases h : t ∈ acc
  · rw [if_pos (by simpa using h), if_pos h]
    have : ∀ l : List (List Int), (l.map kw).map (fun p => if keyEq p.1 (tw t) = true then (p.1, PyData.int 0) else p) = l.map kw := by
      intro l
      rw [List.map_map]
      refine List.map_congr_left fun a _ => ?_
      show (if keyEq (tw a) (tw t) = true then (tw a, PyData.int 0) else kw a) = kw a
      split <;> rfl
    exact this acc
  · rw [if_neg (by simpa using h), if_neg h, List.map_append]; rfl
theorem dictG_kw : ∀ (ts acc : List (List Int)), dictG true (acc.map kw) (ts.map fun t => PyData.tuple [tw t, .int 0]) = some ((dd acc ts).map kw)
  | [], acc => rfl
  | t :: ts, acc => by
    rw [List.map_cons]
    simp only [dictG, keyOk_tw, if_true]
    rw [dput_kw, dictG_kw ts]
    rfl
theorem dDict_kw (t : List Int) (ts : List (List Int)) : dDict [.list ((t :: ts).map fun t => PyData.tuple [tw t, .int 0])] = some (mkDict true ((dd [] (t :: ts)).map kw)) := by
  have h1 : dictG false [] ((t :: ts).map fun t => PyData.tuple [tw t, .int 0]) = none := by
    rw [List.map_cons]
    simp only [dictG, keyOk_tw', Bool.false_eq_true, if_false]
  have h2 := dictG_kw (t :: ts) []
  simp only [dDict, h1]
  rw [show ([] : List (PyData × PyData)) = ([] : List (List Int)).map kw from rfl, h2]
  rfl
theorem dLen_kw (l : List (List Int)) : dLen [mkDict true (l.map kw)] = some (.int (l.length : Int)) := by
  show some (PyData.int (((l.map kw).length : Nat) : Int)) = _
  rw [List.length_map]
theorem dd_append : ∀ (a b acc : List (List Int)), dd acc (a ++ b) = dd (dd acc a) b
  | [], b, acc => rfl
  | x :: a, b, acc => dd_append a b _
theorem dd_new : ∀ (a acc : List (List Int)), a.Nodup → (∀ x ∈ a, x ∉ acc) → dd acc a = acc ++ a
  | [], acc, _, _ => by simp [dd]
  | x :: a, acc, hn, h => by
    rw [List.nodup_cons] at hn
    show dd (if x ∈ acc then acc else acc ++ [x]) a = _
    rw [if_neg (h x List.mem_cons_self), dd_new a _ hn.2 fun y hy z => ?_, List.append_assoc]
    · rfl
    · rcases List.mem_append.mp z with z | z
      · exact h y (List.mem_cons_of_mem _ hy) z
      · rw [List.mem_singleton] at z; subst z; exact hn.1 hy
theorem dd_old : ∀ (a acc : List (List Int)), (∀ x ∈ a, x ∈ acc) → dd acc a = acc
  | [], acc, _ => rfl
  | x :: a, acc, h => by
    show dd (if x ∈ acc then acc else acc ++ [x]) a = _
    rw [if_pos (h x List.mem_cons_self)]
    exact dd_old a acc fun y hy => h y (List.mem_cons_of_mem _ hy)
/-- rotations: as many as the period -/
theorem dd_turns {w : List Int} (h : w ≠ []) : (dd [] ((List.range w.length).map (Rg.rot w))).length = Rg.per w := by
  have hp := Rg.per_pos h
  have hl := Rg.per_le h
  have e : List.range w.length = List.range (Rg.per w) ++ List.range' (Rg.per w) (w.length - Rg.per w) := by
    have := List.range'_append_1 (s := 0) (m := Rg.per w) (n := w.length - Rg.per w)
    rw [Nat.zero_add] at this
    rw [List.range_eq_range', List.range_eq_range', this]
    congr 1; omega
  rw [e, List.map_append, dd_append]
  have h1 : dd [] ((List.range (Rg.per w)).map (Rg.rot w)) = (List.range (Rg.per w)).map (Rg.rot w) := by
    rw [dd_new _ [] ?_ (fun _ _ => List.not_mem_nil)]
    · rfl
    · rw [List.nodup_iff_pairwise_ne, List.pairwise_map]
      refine (List.pairwise_lt_range).imp_of_mem fun {i j} hi hj hij z => ?_
      rw [List.mem_range] at hi hj
      have := (Rg.rot_eq_iff h (Nat.le_of_lt hij) (by omega)).mp z
      have := Nat.le_of_dvd (by omega) this
      omega
  rw [h1, dd_old]
  · rw [List.length_map, List.length_range]
  · intro x hx
    obtain ⟨i, hi, rfl⟩ := List.mem_map.mp hx
    rw [List.mem_range'_1] at hi
    have hlt := Nat.mod_lt i hp
    refine List.mem_map.mpr ⟨i % Rg.per w, List.mem_range.mpr hlt, ?_⟩
    refine (Rg.rot_eq_iff h (Nat.mod_le _ _) (by omega)).mpr ?_
    exact ⟨i / Rg.per w, by have := Nat.div_add_mod i (Rg.per w); omega⟩
theorem eqv_li (xs ys : List Int) : dEq (.list (xs.map .int)) (.list (ys.map .int)) = some (.bool (decide (xs = ys))) := by
  have sh : ∀ zs : List Int, SeqAt.shaped (.list (zs.map .int)) = true := fun zs => (shaped_list fun d hd => by
    obtain ⟨z, _, rfl⟩ := List.mem_map.mp hd
    exact ⟨by unfold PyData.canLay0; rfl, by unfold PyData.depth; omega⟩).1
  show (if SeqAt.shaped (.list (xs.map .int)) = true ∧ SeqAt.shaped (.list (ys.map .int)) = true then some (PyData.bool (PyData.eqv (.list (xs.map .int)) (.list (ys.map .int)))) else none) = _
  rw [if_pos ⟨sh xs, sh ys⟩]
  unfold PyData.eqv
  rw [eqv_ints]
end DL

set_option Elab.async false
set_option linter.all false
set_option maxRecDepth 100000
set_option maxHeartbeats 1000000
namespace Rc
open PySem PySem.Spec PyProof.Rows L2 DL Rg
def d_turned_word : DenS Unit := sSeq (sSet 1 (dBin dMod (dVar 1) (dApp dLen (dACons (dVar 0) dANil)))) (sRet (dBin dAdd (dSl slD (dVar 0) (dOSome (dVar 1)) dONone) (dSl slD (dVar 0) dONone (dOSome (dVar 1)))))
def r_turned_word (ds : List PyData) : Option PyData := runP 2 d_turned_word ds
def d_least_of_ring : DenS Unit := sRet (dApp dMin (dACons (dComp [1] (dRange1 (dApp dLen (dACons (dVar 0) dANil))) (bNm 1) dTrue (dApp r_turned_word (dACons (dVar 0) (dACons (dVar 1) dANil)))) dANil))
def r_least_of_ring (ds : List PyData) : Option PyData := runP 2 d_least_of_ring ds
def d__law_turns : DenS Unit := sRet (dComp [1] (dRange1 (dApp dLen (dACons (dVar 0) dANil))) (bNm 1) dTrue (dBin dAdd (dSl slD (dVar 0) (dOSome (dVar 1)) dONone) (dSl slD (dVar 0) dONone (dOSome (dVar 1)))))
def r__law_turns (ds : List PyData) : Option PyData := runP 2 d__law_turns ds
def d__law_pick : DenS Src := sSeq (sWhile 1000 (dBAnd (dB (dBin dGt (dVar 1) (dC (.int 1)))) (dBAnd (dB (dBin dLt (dSrc .left) (dC (.int 2)))) (dB (dBin dGt dSrcLen (dC (.int 0)))))) sSrcPop) (sSeq (sSet 2 (dSrc .left)) (sSeq (sIf (dBOr (dB (dBin dLt (dVar 1) (dC (.int 2)))) (dB (dBin dGt (dVar 2) (dC (.int 1))))) (sSeq (sSrc .left (dBin dDiv (dVar 2) (dApp dMax (dACons (dC (.int 1)) (dACons (dVar 1) dANil))))) (sRet (dBin dMod (dApp dInt (dACons (dVar 2) dANil)) (dApp dMax (dACons (dC (.int 1)) (dACons (dVar 1) dANil)))))) sSkip) (sSeq (sSrc .turn (dBin dAdd (dSrc .turn) (dC (.int 1)))) (sSeq (sSet 3 (dBin dMod (dApp dInt (dACons (dBin dAdd (dSrc .mixed) (dBin dMul (dSrc .turn) (dC (.int 104729)))) dANil)) (dC (.int 998244353)))) (sSeq (sSet 3 (dBin dMod (dApp dInt (dACons (dBin dAdd (dBin dMul (dVar 3) (dVar 3)) (dBin dMul (dSrc .turn) (dC (.int 17)))) dANil)) (dC (.int 2147483647)))) (sSeq (sSrc .mixed (dVar 3)) (sRet (dBin dMod (dApp dInt (dACons (dBin dDiv (dVar 3) (dC (.int 16))) dANil)) (dVar 1)))))))))
def r__law_pick (ds : List PyData) (s : Src) : Option (PyData × Src) := runS 4 d__law_pick ds s
def d__law_words : DenS Unit := sSeq (sSet 2 (dLst (dACons (dTup dANil) dANil))) (sSeq (sFor (dRange1 (dVar 1)) (bNm 3) (sSeq (sSet 4 (dLst dANil)) (sSeq (sFor (dItems (dVar 2)) (bNm 5) (sSet 4 (dBin dAdd (dVar 4) (dComp [6] (dRange1 (dVar 0)) (bNm 6) dTrue (dBin dAdd (dVar 5) (dTup (dACons (dVar 6) dANil))))))) (sSet 2 (dVar 4))))) (sRet (dVar 2)))
def r__law_words (ds : List PyData) : Option PyData := runP 7 d__law_words ds
def d__law_size : DenS Src := sSeq (sPar [2, 3] (dACons (dBin dAdd (dC (.int 1)) (dApS r__law_pick (dACons (dC (.int 4)) dANil))) (dACons (dBin dAdd (dC (.int 1)) (dApS r__law_pick (dACons (dC (.int 8)) dANil))) dANil))) (sSeq (sPar [4, 5] (dACons (dC (.int 1)) (dACons (dC (.int 0)) dANil))) (sSeq (sWhile 1000 (dBAnd (dB (dBin dLt (dVar 5) (dVar 3))) (dB (dBin dLe (dBin dMul (dVar 4) (dVar 2)) (dVar 1)))) (sPar [4, 5] (dACons (dBin dMul (dVar 4) (dVar 2)) (dACons (dBin dAdd (dVar 5) (dC (.int 1))) dANil)))) (sRet (dTup (dACons (dVar 2) (dACons (dApp dMax (dACons (dC (.int 1)) (dACons (dVar 5) dANil))) dANil))))))
def r__law_size (ds : List PyData) (s : Src) : Option (PyData × Src) := runS 6 d__law_size ds s
theorem fmod_nat (a b : Nat) : ((a : Int)).fmod (b : Int) = ((a % b : Nat) : Int) := by
  rw [Int.fmod_eq_emod_of_nonneg _ (by omega)]; rfl
theorem list_ix0 {ds : List PyData} {d : PyData} (h : ds[0]? = some d) : ixD (.list ds) (.int 0) = some d := list_ix (j := 0) h
theorem turned_ok {w : List Int} (h : w ≠ []) (hl : w.length ≤ 1000) (i : Int) : r_turned_word [tw w, .int i] = some (tw (rot w (i.fmod w.length).toNat)) := by
  have hn : (0 : Int) < w.length := by have := List.length_pos_iff.mpr h; omega
  have hm := fmod_pos (a := i) hn
  obtain ⟨j, hj⟩ : ∃ j : Nat, i.fmod w.length = j := ⟨(i.fmod w.length).toNat, by omega⟩
  refine runP_of ?_
  show Runs d_turned_word [some (tw w), some (.int i)] () _
  simp only [d_turned_word, runs_seq, runs_set, runs_if, runs_ret, runs_skip, runs_drop, runs_par, runs_asg, runs_for, runs_upd, evb_b, evb_and, evb_or, evb_not, evb_true, ev_c, ev_var, ev_un, ev_bin, ev_app, ev_apS, ev_tup, ev_lst, ev_and, ev_or, ev_not, ev_if, ev_chain, ev_sl, ev_comp, eva_nil, eva_cons, eva_items, eva_range1, eva_range2, evo_none, evo_some, ok_some, ok_none, nxt_nx, nxt_ret, nxt_bk, nxt_ct, turnQ_nx, turnQ_ret, turnQ_bk, turnQ_ct, List.getElem?_cons_succ, List.getElem?_cons_zero, List.set_cons_succ, List.set_cons_zero, Option.some.injEq, exists_eq_left', exists_eq_left, setE, toB, toI, wipeE, bNm, itemsD]
  simp only [len_tw, ok_some, dMod, ne_eq, show ¬ ((w.length : Int) = 0) by omega, not_false_eq_true, if_true, runs_seq, runs_set, runs_if, runs_ret, runs_skip, runs_drop, runs_par, runs_asg, runs_for, runs_upd, evb_b, evb_and, evb_or, evb_not, evb_true, ev_c, ev_var, ev_un, ev_bin, ev_app, ev_apS, ev_tup, ev_lst, ev_and, ev_or, ev_not, ev_if, ev_chain, ev_sl, ev_comp, eva_nil, eva_cons, eva_items, eva_range1, eva_range2, evo_none, evo_some, ok_some, ok_none, nxt_nx, nxt_ret, nxt_bk, nxt_ct, turnQ_nx, turnQ_ret, turnQ_bk, turnQ_ct, List.getElem?_cons_succ, List.getElem?_cons_zero, List.set_cons_succ, List.set_cons_zero, Option.some.injEq, exists_eq_left', exists_eq_left, setE, toB, toI, wipeE, bNm, itemsD]
  rw [hj]
  simp only [sl_drop, sl_take, ok_some, runs_seq, runs_set, runs_if, runs_ret, runs_skip, runs_drop, runs_par, runs_asg, runs_for, runs_upd, evb_b, evb_and, evb_or, evb_not, evb_true, ev_c, ev_var, ev_un, ev_bin, ev_app, ev_apS, ev_tup, ev_lst, ev_and, ev_or, ev_not, ev_if, ev_chain, ev_sl, ev_comp, eva_nil, eva_cons, eva_items, eva_range1, eva_range2, evo_none, evo_some, ok_some, ok_none, nxt_nx, nxt_ret, nxt_bk, nxt_ct, turnQ_nx, turnQ_ret, turnQ_bk, turnQ_ct, List.getElem?_cons_succ, List.getElem?_cons_zero, List.set_cons_succ, List.set_cons_zero, Option.some.injEq, exists_eq_left', exists_eq_left, setE, toB, toI, wipeE, bNm, itemsD]
  rw [add_tw (by rw [List.length_drop, List.length_take]; omega)]
  simp only [ok_some]
  rfl
def tn (w : List Int) : List (List Int) := (List.range w.length).map (rot w)
theorem filter_tt {α : Type} (l : List α) : (l.filter fun _ => true) = l := List.filter_eq_self.mpr fun _ _ => rfl
theorem turns_ok {w : List Int} (hl : w.length ≤ 1000) : r__law_turns [tw w] = some (.list ((tn w).map tw)) := by
  refine runP_of ?_
  show Runs d__law_turns [some (tw w), none] () _
  simp only [d__law_turns, runs_seq, runs_set, runs_if, runs_ret, runs_skip, runs_drop, runs_par, runs_asg, runs_for, runs_upd, evb_b, evb_and, evb_or, evb_not, evb_true, ev_c, ev_var, ev_un, ev_bin, ev_app, ev_apS, ev_tup, ev_lst, ev_and, ev_or, ev_not, ev_if, ev_chain, ev_sl, ev_comp, eva_nil, eva_cons, eva_items, eva_range1, eva_range2, evo_none, evo_some, ok_some, ok_none, nxt_nx, nxt_ret, nxt_bk, nxt_ct, turnQ_nx, turnQ_ret, turnQ_bk, turnQ_ct, List.getElem?_cons_succ, List.getElem?_cons_zero, List.set_cons_succ, List.set_cons_zero, Option.some.injEq, exists_eq_left', exists_eq_left, setE, toB, toI, wipeE, bNm, itemsD]
  simp only [len_tw, ok_some]
  rw [range1_nat (by omega)]
  simp only [ok_some]
  rw [comp_rng (fun _ => true) (fun j => tw (rot w j))]
  · simp only [ok_some, filter_tt, List.length_map, List.length_range]
    exact ⟨by rw [sizeLine_eq]; omega, by unfold tn; rw [List.map_map]; rfl⟩
  · intro j hj
    refine ⟨_, rfl, ?_⟩
    simp only [runs_seq, runs_set, runs_if, runs_ret, runs_skip, runs_drop, runs_par, runs_asg, runs_for, runs_upd, evb_b, evb_and, evb_or, evb_not, evb_true, ev_c, ev_var, ev_un, ev_bin, ev_app, ev_apS, ev_tup, ev_lst, ev_and, ev_or, ev_not, ev_if, ev_chain, ev_sl, ev_comp, eva_nil, eva_cons, eva_items, eva_range1, eva_range2, evo_none, evo_some, ok_some, ok_none, nxt_nx, nxt_ret, nxt_bk, nxt_ct, turnQ_nx, turnQ_ret, turnQ_bk, turnQ_ct, List.getElem?_cons_succ, List.getElem?_cons_zero, List.set_cons_succ, List.set_cons_zero, Option.some.injEq, exists_eq_left', exists_eq_left, setE, toB, toI, wipeE, bNm, itemsD, Int.zero_add, forall_const]
    refine ⟨by simp, ?_⟩
    simp only [sl_drop, sl_take, ok_some]
    rw [add_tw (by rw [List.length_drop, List.length_take]; omega)]
    simp [rot]
def lst (w : List Int) : List Int := match tn w with | x :: xs => lmin x xs | [] => []
theorem tn_ne {w : List Int} (h : w ≠ []) : ∃ x xs, tn w = x :: xs := by
  cases q : tn w with
  | nil =>
    have := List.length_pos_iff.mpr h
    have e : (tn w).length = w.length := by unfold tn; simp
    rw [q] at e; simp at e; omega
  | cons x xs => exact ⟨x, xs, rfl⟩
theorem lst_mem {w : List Int} (h : w ≠ []) : lst w ∈ tn w := by
  obtain ⟨x, xs, e⟩ := tn_ne h
  unfold lst; rw [e]; exact lmin_mem x xs
theorem lst_le {w : List Int} (h : w ≠ []) : ∀ y ∈ tn w, ilt y (lst w) = false := by
  obtain ⟨x, xs, e⟩ := tn_ne h
  unfold lst; rw [e]; exact lmin_le x xs
theorem min_tn {w : List Int} (h : w ≠ []) : dMin [.list ((tn w).map tw)] = some (tw (lst w)) := by
  obtain ⟨x, xs, e⟩ := tn_ne h
  unfold lst; rw [e]; exact dMin_tw x xs
theorem lst_of {w m : List Int} (h1 : m ∈ tn w) (h2 : ∀ y ∈ tn w, ilt y m = false) : lst w = m := by
  unfold lst
  cases q : tn w with
  | nil => rw [q] at h1; cases h1
  | cons x xs => rw [q] at h1 h2; exact lmin_of h1 h2
theorem least_ok {w : List Int} (h : w ≠ []) (hl : w.length ≤ 1000) : r_least_of_ring [tw w] = some (tw (lst w)) := by
  refine runP_of ?_
  show Runs d_least_of_ring [some (tw w), none] () _
  simp only [d_least_of_ring, runs_seq, runs_set, runs_if, runs_ret, runs_skip, runs_drop, runs_par, runs_asg, runs_for, runs_upd, evb_b, evb_and, evb_or, evb_not, evb_true, ev_c, ev_var, ev_un, ev_bin, ev_app, ev_apS, ev_tup, ev_lst, ev_and, ev_or, ev_not, ev_if, ev_chain, ev_sl, ev_comp, eva_nil, eva_cons, eva_items, eva_range1, eva_range2, evo_none, evo_some, ok_some, ok_none, nxt_nx, nxt_ret, nxt_bk, nxt_ct, turnQ_nx, turnQ_ret, turnQ_bk, turnQ_ct, List.getElem?_cons_succ, List.getElem?_cons_zero, List.set_cons_succ, List.set_cons_zero, Option.some.injEq, exists_eq_left', exists_eq_left, setE, toB, toI, wipeE, bNm, itemsD]
  simp only [len_tw, ok_some]
  rw [range1_nat (by omega)]
  simp only [ok_some]
  rw [comp_rng (fun _ => true) (fun j => tw (rot w j))]
  · simp only [ok_some, filter_tt, List.length_map, List.length_range]
    refine ⟨by rw [sizeLine_eq]; omega, ?_⟩
    have e : (List.map (fun j => tw (rot w j)) (List.range w.length)) = (tn w).map tw := by unfold tn; rw [List.map_map]; rfl
    rw [e, min_tn h]
    simp
  · intro j hj
    refine ⟨_, rfl, ?_⟩
    simp only [runs_seq, runs_set, runs_if, runs_ret, runs_skip, runs_drop, runs_par, runs_asg, runs_for, runs_upd, evb_b, evb_and, evb_or, evb_not, evb_true, ev_c, ev_var, ev_un, ev_bin, ev_app, ev_apS, ev_tup, ev_lst, ev_and, ev_or, ev_not, ev_if, ev_chain, ev_sl, ev_comp, eva_nil, eva_cons, eva_items, eva_range1, eva_range2, evo_none, evo_some, ok_some, ok_none, nxt_nx, nxt_ret, nxt_bk, nxt_ct, turnQ_nx, turnQ_ret, turnQ_bk, turnQ_ct, List.getElem?_cons_succ, List.getElem?_cons_zero, List.set_cons_succ, List.set_cons_zero, Option.some.injEq, exists_eq_left', exists_eq_left, setE, toB, toI, wipeE, bNm, itemsD, Int.zero_add, forall_const]
    refine ⟨by simp, ?_⟩
    rw [turned_ok h hl]
    have e : ((j : Int).fmod w.length).toNat = j := by
      rw [fmod_nat, Nat.mod_eq_of_lt hj]; rfl
    rw [e]; simp
/-- the first of the numbers from one on -/
theorem first_of (k : Nat → Bool) (n p : Nat) (h1 : 1 ≤ p) (h2 : p ≤ n) (h3 : k (p - 1) = true) (h4 : ∀ j, j + 1 < p → k j = false) (g : Nat → PyData) : (((List.range n).filter k).map g)[0]? = some (g (p - 1)) := by
  rw [← List.head?_eq_getElem?, List.head?_map, List.head?_filter]
  have : (List.range n).find? k = some (p - 1) := by
    rw [List.find?_range_eq_some]
    exact ⟨h3, List.mem_range.mpr (by omega), fun j hj => by rw [h4 j (by omega)]; rfl⟩
  rw [this]; rfl
theorem lst_rot {w : List Int} (h : w ≠ []) : ∃ i, i < w.length ∧ lst w = rot w i := by
  obtain ⟨i, hi, e⟩ := List.mem_map.mp (lst_mem h)
  exact ⟨i, List.mem_range.mp hi, e.symm⟩
theorem per_lst {w : List Int} (h : w ≠ []) : per (lst w) = per w := by
  obtain ⟨i, hi, e⟩ := lst_rot h
  rw [e]; exact per_rot h (Nat.le_of_lt hi)
theorem len_lst {w : List Int} (h : w ≠ []) : (lst w).length = w.length := by
  obtain ⟨i, hi, e⟩ := lst_rot h
  rw [e, rot_len]

/-- all words of q letters, length n -/
def allw (q : Nat) : Nat → List (List Int)
  | 0 => [[]]
  | n + 1 => (allw q n).flatMap fun w => (List.range q).map fun (x : Nat) => w ++ [(x : Int)]
theorem allw_len (q : Nat) : ∀ n, (allw q n).length = q ^ n
  | 0 => rfl
  | n + 1 => by
    have : ∀ l : List (List Int), (l.flatMap fun w => (List.range q).map fun (x : Nat) => w ++ [(x : Int)]).length = l.length * q := fun l => by
      induction l with
      | nil => simp
      | cons a l ih => rw [List.flatMap_cons, List.length_append, ih, List.length_map, List.length_range, List.length_cons, Nat.succ_mul]; omega
    show ((allw q n).flatMap _).length = _
    rw [this, allw_len q n, Nat.pow_succ]
theorem allw_mem (q : Nat) : ∀ n w, w ∈ allw q n → w.length = n ∧ ∀ x ∈ w, 0 ≤ x ∧ x < q
  | 0, w, h => by
    rw [List.mem_singleton.mp h]; exact ⟨rfl, fun _ h => (by cases h)⟩
  | n + 1, w, h => by
    obtain ⟨v, hv, h2⟩ := List.mem_flatMap.mp h
    obtain ⟨x, hx, rfl⟩ := List.mem_map.mp h2
    obtain ⟨h3, h4⟩ := allw_mem q n v hv
    refine ⟨by rw [List.length_append, h3]; rfl, fun y hy => ?_⟩
    rcases List.mem_append.mp hy with hy | hy
    · exact h4 y hy
    · rw [List.mem_singleton.mp hy]
      have := List.mem_range.mp hx
      omega
theorem words_ok {q n : Nat} (hq : 1 ≤ q) (hqb : q ≤ 100) (hn : n ≤ 100) (hb : q ^ n ≤ 100000) : r__law_words [.int q, .int n] = some (.list ((allw q n).map tw)) := by
  refine runP_of ?_
  show Runs d__law_words [some (.int q), some (.int n), none, none, none, none, none] () _
  unfold d__law_words
  rw [runs_seq, runs_set, ev_lst, eva_cons, ev_tup, eva_nil]
  refine ⟨by simp [sizeLine_eq], ?_⟩
  rw [eva_nil]
  refine ⟨by simp [sizeLine_eq], ?_⟩
  rw [nxt_nx, runs_seq, runs_for, eva_range1, ev_var]
  refine ⟨_, rfl, ?_⟩
  rw [range1_nat (by omega), ok_some]
  refine runs_forL (fun k e s => ∃ a3 a4 a5 a6, e = [some (.int q), some (.int n), some (.list ((allw q k).map tw)), a3, a4, a5, a6]) (k := 0) ⟨none, none, none, none, rfl⟩ ?_ ?_
  · rintro j d e s hd ⟨a3, a4, a5, a6, rfl⟩
    have hj : j < n := by
      have := (List.getElem?_eq_some_iff.mp hd).1
      unfold rng at this; rw [List.length_map, List.length_range] at this; exact this
    rw [Nat.zero_add]
    simp only [bNm, ok_some, List.set_cons_succ, List.set_cons_zero]
    rw [runs_seq, runs_set, ev_lst, eva_nil]
    refine ⟨by simp [sizeLine_eq], ?_⟩
    simp only [nxt_nx, List.set_cons_succ, List.set_cons_zero]
    rw [runs_seq, runs_for, eva_items, ev_var]
    refine ⟨_, rfl, ?_⟩
    rw [show itemsD (.list ((allw q j).map tw)) = some ((allw q j).map tw) from rfl, ok_some]
    have hsub : q ^ (j + 1) ≤ 100000 := Nat.le_trans (Nat.pow_le_pow_right (by omega) (by omega)) hb
    refine runs_forL (fun i e s => ∃ a5 a6, e = [some (.int q), some (.int n), some (.list ((allw q j).map tw)), some d, some (.list ((((allw q j).take i).flatMap fun w => (List.range q).map fun (x : Nat) => w ++ [(x : Int)]).map tw)), a5, a6]) (k := 0) ⟨a5, a6, rfl⟩ ?_ ?_
    · rintro i dw e s hdw ⟨a5, a6, rfl⟩
      rw [Nat.zero_add, List.getElem?_map] at *
      obtain ⟨w, hw, rfl⟩ := Option.map_eq_some_iff.mp hdw
      simp only [bNm, ok_some, List.set_cons_succ, List.set_cons_zero]
      rw [runs_set, ev_bin, ev_var]
      refine ⟨_, rfl, ?_⟩
      rw [ev_comp, eva_range1, ev_var]
      refine ⟨_, rfl, ?_⟩
      rw [range1_nat (by omega), ok_some, comp_rng (fun _ => true) (fun x => tw (w ++ [(x : Int)]))]
      · rw [ok_some, filter_tt]
        simp only [List.length_map, List.length_range]
        refine ⟨by rw [sizeLine_eq]; omega, ?_⟩
        have hl : (((allw q j).take i).flatMap fun w => (List.range q).map fun (x : Nat) => w ++ [(x : Int)]).length + q ≤ 100000 := by
          have h1 : ∀ l : List (List Int), (l.flatMap fun w => (List.range q).map fun (x : Nat) => w ++ [(x : Int)]).length = l.length * q := fun l => by
            induction l with
            | nil => simp
            | cons a l ih => rw [List.flatMap_cons, List.length_append, ih, List.length_map, List.length_range, List.length_cons, Nat.succ_mul]; omega
          have hi := (List.getElem?_eq_some_iff.mp hw).1
          rw [h1, List.length_take, Nat.min_eq_left (Nat.le_of_lt hi)]
          rw [allw_len] at hi
          have : (i + 1) * q ≤ q ^ j * q := Nat.mul_le_mul_right _ hi
          rw [← Nat.pow_succ, Nat.succ_mul] at this
          have e2 : q ^ j.succ = q ^ (j + 1) := rfl
          rw [e2] at this
          omega
        have ea : dAdd (.list ((((allw q j).take i).flatMap fun w => (List.range q).map fun (x : Nat) => w ++ [(x : Int)]).map tw)) (.list ((List.range q).map fun (x : Nat) => tw (w ++ [(x : Int)]))) = some (.list ((((allw q j).take (i + 1)).flatMap fun w => (List.range q).map fun (x : Nat) => w ++ [(x : Int)]).map tw)) := by
          simp only [dAdd]
          rw [if_pos (by rw [List.length_map, List.length_map, List.length_range, sizeLine_eq]; omega), List.take_add_one, hw, List.flatMap_append, List.map_append]
          simp [List.map_map, Function.comp_def]
        rw [ea, ok_some]
        simp only [turnQ_nx, List.set_cons_succ, List.set_cons_zero]
        exact ⟨_, _, rfl⟩
      · intro x hx
        refine ⟨_, rfl, ?_⟩
        simp only [runs_seq, runs_set, runs_if, runs_ret, runs_skip, runs_drop, runs_par, runs_asg, runs_for, runs_upd, evb_b, evb_and, evb_or, evb_not, evb_true, ev_c, ev_var, ev_un, ev_bin, ev_app, ev_apS, ev_tup, ev_lst, ev_and, ev_or, ev_not, ev_if, ev_chain, ev_sl, ev_comp, eva_nil, eva_cons, eva_items, eva_range1, eva_range2, evo_none, evo_some, ok_some, ok_none, nxt_nx, nxt_ret, nxt_bk, nxt_ct, turnQ_nx, turnQ_ret, turnQ_bk, turnQ_ct, List.getElem?_cons_succ, List.getElem?_cons_zero, List.set_cons_succ, List.set_cons_zero, Option.some.injEq, exists_eq_left', exists_eq_left, setE, toB, toI, wipeE, bNm, itemsD, Int.zero_add, List.length_cons, List.length_nil]
        refine ⟨by simp, fun _ => ⟨by rw [sizeLine_eq]; omega, ?_⟩⟩
        have hwl : w.length ≤ 100 := by
          have := (allw_mem q j w (List.mem_of_getElem? hw)).1; omega
        have := add_tw (u := w) (v := [(x : Int)]) (by simp; omega)
        unfold tw at this ⊢
        rw [List.map_cons, List.map_nil] at this
        rw [this, ok_some]
        simp
    · rintro e s ⟨a5, a6, rfl⟩
      rw [Nat.zero_add, List.length_map, List.take_length]
      simp only [nxt_nx, runs_seq, runs_set, runs_if, runs_ret, runs_skip, runs_drop, runs_par, runs_asg, runs_for, runs_upd, evb_b, evb_and, evb_or, evb_not, evb_true, ev_c, ev_var, ev_un, ev_bin, ev_app, ev_apS, ev_tup, ev_lst, ev_and, ev_or, ev_not, ev_if, ev_chain, ev_sl, ev_comp, eva_nil, eva_cons, eva_items, eva_range1, eva_range2, evo_none, evo_some, ok_some, ok_none, nxt_nx, nxt_ret, nxt_bk, nxt_ct, turnQ_nx, turnQ_ret, turnQ_bk, turnQ_ct, List.getElem?_cons_succ, List.getElem?_cons_zero, List.set_cons_succ, List.set_cons_zero, Option.some.injEq, exists_eq_left', exists_eq_left, setE, toB, toI, wipeE, bNm, itemsD]
      exact ⟨_, _, _, _, rfl⟩
  · rintro e s ⟨a3, a4, a5, a6, rfl⟩
    have hlen : (rng 0 n).length = n := by unfold rng; simp
    rw [Nat.zero_add, hlen]
    simp only [nxt_nx, runs_seq, runs_set, runs_if, runs_ret, runs_skip, runs_drop, runs_par, runs_asg, runs_for, runs_upd, evb_b, evb_and, evb_or, evb_not, evb_true, ev_c, ev_var, ev_un, ev_bin, ev_app, ev_apS, ev_tup, ev_lst, ev_and, ev_or, ev_not, ev_if, ev_chain, ev_sl, ev_comp, eva_nil, eva_cons, eva_items, eva_range1, eva_range2, evo_none, evo_some, ok_some, ok_none, nxt_nx, nxt_ret, nxt_bk, nxt_ct, turnQ_nx, turnQ_ret, turnQ_bk, turnQ_ct, List.getElem?_cons_succ, List.getElem?_cons_zero, List.set_cons_succ, List.set_cons_zero, Option.some.injEq, exists_eq_left', exists_eq_left, setE, toB, toI, wipeE, bNm, itemsD]
theorem ev_pickR {f : Den Src} {e : DL.Env} {s : Src} {Q : PyData → Src → Prop} {m : Int} (h : Ev f e s fun d _ => d = .int m) (hm : m < 1073741824) (q : ∀ r s', 0 ≤ r → r < max 1 m → Q (.int r) s') : Ev (dApS r__law_pick (dACons f dANil)) e s Q := ev_pick1 rfl h hm q
theorem size_ok {most : Nat} (hm : most ≤ 100000) (s : Src) : Gets (r__law_size [.int most] s) fun p => ∃ q n : Nat, p.1 = .tuple [.int q, .int n] ∧ 1 ≤ q ∧ q ≤ 4 ∧ 1 ≤ n ∧ n ≤ 8 ∧ (n = 1 ∨ q ^ n ≤ most) := by
  refine ok_runS ?_
  show Runs d__law_size [none, some (.int most), none, none, none, none] s _
  unfold d__law_size
  rw [runs_seq, runs_par, eva_cons, ev_bin, ev_c]
  refine ev_pickR (m := 4) (ev_c.mpr rfl) (by decide) fun r s1 h1 h2 => ?_
  simp only [dAdd, ok_some]
  rw [eva_cons, ev_bin, ev_c]
  refine ev_pickR (m := 8) (ev_c.mpr rfl) (by decide) fun t s2 h3 h4 => ?_
  have hr : r < 4 := by rw [Int.max_def] at h2; split at h2 <;> omega
  have ht : t < 8 := by rw [Int.max_def] at h4; split at h4 <;> omega
  obtain ⟨q, hq⟩ : ∃ q : Nat, 1 + r = q := ⟨(1 + r).toNat, by omega⟩
  obtain ⟨n, hn⟩ : ∃ n : Nat, 1 + t = n := ⟨(1 + t).toNat, by omega⟩
  simp only [hq, hn, dAdd, ok_some, eva_nil, List.length_cons, List.length_nil, true_and, setE, List.set_cons_succ, List.set_cons_zero, nxt_nx]
  rw [runs_seq, runs_par, eva_cons, ev_c, eva_cons, ev_c, eva_nil]
  simp only [List.length_cons, List.length_nil, true_and, setE, List.set_cons_succ, List.set_cons_zero, nxt_nx]
  rw [runs_seq]
  have key : ∀ (QS : Fl → DL.Env → Src → Prop), (∀ k s, k ≤ n → (k = 0 ∨ q ^ k ≤ most) → QS .nx [none, some (.int most), some (.int q), some (.int n), some (.int ((q ^ k : Nat) : Int)), some (.int k)] s) → ∀ (m k : Nat) (s : Src), n < m + k → k ≤ n → (k = 0 ∨ q ^ k ≤ most) → Runs (sWhile m (dBAnd (dB (dBin dLt (dVar 5) (dVar 3))) (dB (dBin dLe (dBin dMul (dVar 4) (dVar 2)) (dVar 1)))) (sPar [4, 5] (dACons (dBin dMul (dVar 4) (dVar 2)) (dACons (dBin dAdd (dVar 5) (dC (.int 1))) dANil)))) [none, some (.int most), some (.int q), some (.int n), some (.int ((q ^ k : Nat) : Int)), some (.int k)] s QS := by
    intro QS hfin m
    induction m with
    | zero => intro k s h1 h2 _; omega
    | succ m ih =>
      intro k s h1 h2 h3
      rw [runs_while]
      simp only [runs_seq, runs_set, runs_if, runs_ret, runs_skip, runs_drop, runs_par, runs_asg, runs_for, runs_upd, evb_b, evb_and, evb_or, evb_not, evb_true, ev_c, ev_var, ev_un, ev_bin, ev_app, ev_apS, ev_tup, ev_lst, ev_and, ev_or, ev_not, ev_if, ev_chain, ev_sl, ev_comp, eva_nil, eva_cons, eva_items, eva_range1, eva_range2, evo_none, evo_some, ok_some, ok_none, nxt_nx, nxt_ret, nxt_bk, nxt_ct, turnQ_nx, turnQ_ret, turnQ_bk, turnQ_ct, List.getElem?_cons_succ, List.getElem?_cons_zero, List.set_cons_succ, List.set_cons_zero, Option.some.injEq, exists_eq_left', exists_eq_left, setE, toB, toI, wipeE, bNm, itemsD, dLt, dLe, ordD, dMul, show small64 (q : Int) = true from by rw [small64_iff]; omega, Bool.or_true, if_true, decide_eq_true_eq]
      split
      · rename_i hk
        have hk' : k < n := by omega
        split
        · rename_i hc
          simp only [dAdd, runs_seq, runs_set, runs_if, runs_ret, runs_skip, runs_drop, runs_par, runs_asg, runs_for, runs_upd, evb_b, evb_and, evb_or, evb_not, evb_true, ev_c, ev_var, ev_un, ev_bin, ev_app, ev_apS, ev_tup, ev_lst, ev_and, ev_or, ev_not, ev_if, ev_chain, ev_sl, ev_comp, eva_nil, eva_cons, eva_items, eva_range1, eva_range2, evo_none, evo_some, ok_some, ok_none, nxt_nx, nxt_ret, nxt_bk, nxt_ct, turnQ_nx, turnQ_ret, turnQ_bk, turnQ_ct, List.getElem?_cons_succ, List.getElem?_cons_zero, List.set_cons_succ, List.set_cons_zero, Option.some.injEq, exists_eq_left', exists_eq_left, setE, toB, toI, wipeE, bNm, itemsD, List.length_cons, List.length_nil, true_and]
          have e1 : ((q ^ k : Nat) : Int) * q = ((q ^ (k + 1) : Nat) : Int) := by rw [Nat.pow_succ]; exact (Int.natCast_mul _ _).symm
          rw [e1, show (k : Int) + 1 = ((k + 1 : Nat) : Int) by omega]
          refine ih (k + 1) s (by omega) hk' (.inr ?_)
          rw [e1] at hc
          omega
        · exact hfin k s h2 h3
      · exact hfin k s h2 h3
  refine key _ (fun k s hk h3 => ?_) 1000 0 s2 (by omega) (by omega) (.inl rfl)
  rw [nxt_nx]
  simp only [runs_seq, runs_set, runs_if, runs_ret, runs_skip, runs_drop, runs_par, runs_asg, runs_for, runs_upd, evb_b, evb_and, evb_or, evb_not, evb_true, ev_c, ev_var, ev_un, ev_bin, ev_app, ev_apS, ev_tup, ev_lst, ev_and, ev_or, ev_not, ev_if, ev_chain, ev_sl, ev_comp, eva_nil, eva_cons, eva_items, eva_range1, eva_range2, evo_none, evo_some, ok_some, ok_none, nxt_nx, nxt_ret, nxt_bk, nxt_ct, turnQ_nx, turnQ_ret, turnQ_bk, turnQ_ct, List.getElem?_cons_succ, List.getElem?_cons_zero, List.set_cons_succ, List.set_cons_zero, Option.some.injEq, exists_eq_left', exists_eq_left, setE, toB, toI, wipeE, bNm, itemsD, dMax, List.length_cons, List.length_nil]
  refine ⟨by rw [sizeLine_eq]; omega, _, rfl, q, max 1 k, ?_, by omega, by omega, by omega, by omega, ?_⟩
  · have e4 : (if (k : Int) > 1 then (k : Int) else 1) = ((max 1 k : Nat) : Int) := by split <;> omega
    rw [e4]
  · rcases h3 with rfl | h3
    · exact .inl rfl
    · by_cases z : k ≤ 1
      · exact .inl (by omega)
      · right; rw [Nat.max_eq_right (by omega)]; exact h3
end Rc

set_option Elab.async false
set_option linter.all false
set_option maxRecDepth 100000
namespace DL
open PySem PySem.Spec PyProof.Rows L2
/-! ## data, compared sign by sign -/
mutual
def peq : PyData → PyData → Bool
  | .none, .none => true
  | .bool a, .bool b => a == b
  | .int a, .int b => decide (a = b)
  | .str a, .str b => decide (a = b)
  | .list xs, .list ys => peqs xs ys
  | .tuple xs, .tuple ys => peqs xs ys
  | _, _ => false
def peqs : List PyData → List PyData → Bool
  | [], [] => true
  | x :: xs, y :: ys => peq x y && peqs xs ys
  | _, _ => false
end
mutual
theorem peq_eq : ∀ {a b : PyData}, peq a b = true → a = b
  | .none, b, h => by cases b <;> first | rfl | (unfold peq at h; cases h)
  | .bool x, b, h => by cases b <;> first | (unfold peq at h; rw [eq_of_beq h]) | (unfold peq at h; cases h)
  | .int x, b, h => by cases b <;> first | (unfold peq at h; rw [of_decide_eq_true h]) | (unfold peq at h; cases h)
  | .str x, b, h => by cases b <;> first | (unfold peq at h; rw [of_decide_eq_true h]) | (unfold peq at h; cases h)
  | .list xs, b, h => by cases b <;> first | (unfold peq at h; rw [peqs_eq h]) | (unfold peq at h; cases h)
  | .tuple xs, b, h => by cases b <;> first | (unfold peq at h; rw [peqs_eq h]) | (unfold peq at h; cases h)
  | .dict xs, b, h => by cases b <;> (unfold peq at h; cases h)
theorem peqs_eq : ∀ {a b : List PyData}, peqs a b = true → a = b
  | [], [], _ => rfl
  | [], _ :: _, h => by unfold peqs at h; cases h
  | _ :: _, [], h => by unfold peqs at h; cases h
  | x :: xs, y :: ys, h => by
    unfold peqs at h
    rw [Bool.and_eq_true] at h
    rw [peq_eq h.1, peqs_eq h.2]
end
end DL

set_option Elab.async false
set_option linter.all false
set_option maxRecDepth 100000
set_option maxHeartbeats 0
namespace W54
open PySem PySem.Spec PyProof.Rows L2 DL
def topS (i : Nat) : Stmt := PySem.Challenge.pw_allbysteps_k54_whole_bands.main.body.getD i (.Pass ⟨0, 0, 0, 0⟩)
structure Blt (mg : Str → Option Value) : Prop where
  len_ : mg "len" = none
  range_ : mg "range" = none
  min_ : mg "min" = none
  max_ : mg "max" = none
  abs_ : mg "abs" = none
  int_ : mg "int" = none
  tuple_ : mg "tuple" = none
  repr_ : mg "repr" = none
  enumerate_ : mg "enumerate" = none

abbrev s_longest_prime : Stmt := topS 1
theorem sc_longest_prime : FnScope ["word", "found", "k"] ["word"] (defScope s_longest_prime) := ⟨rfl, rfl, rfl, by decide +kernel, rfl, by decide +kernel, by decide +kernel⟩
def d_longest_prime : DenS Unit := sSeq (sSet 1 (dC (.int 1))) (sSeq (sFor (dRange2 (dC (.int 1)) (dApp dLen (dACons (dVar 0) dANil))) (bNm 2) (sIf (dB (dBin dNe (dBin ixD (dVar 0) (dVar 2)) (dBin ixD (dVar 0) (dBin dSub (dVar 2) (dVar 1))))) (sSet 1 (dBin dAdd (dVar 2) (dC (.int 1)))) sSkip)) (sRet (dVar 1)))
def r_longest_prime (ds : List PyData) : Option PyData := runP 3 d_longest_prime ds
theorem g_longest_prime {P : Program} {w : World} {K : PySem.W.Frag} {mg : Str → Option Value} {base : Heap} (b : Blt mg) {f : Addr} {fd : FuncData} (F : Fun K "longest_prime" "longest_prime" s_longest_prime f fd) : FnG P w K mg base 1 f fd ["word"] (spP K 1 r_longest_prime) :=
  fnG_pure (fun _ => false) F sc_longest_prime (by decide) fun cdv A outer s H hc => (by
    have nd := sc_longest_prime.nd
    exact pds_cons (pd_set (i := 1) nd rfl (.inl rfl) pv_int (hfx := pfree)) (pds_cons (pd_for PassesOwn.never rfl (piv_range2 (by rfl) b.range_ pv_int.pp ((pv_bi (bi_len b.len_) (by rfl) (pap_cons (pp_var 0 (pv 0)) pap_nil)).pp)) (pgd_nm (i := 2) nd rfl (.inl rfl) (hfx := pfree)) (pds_one (pd_if (pb_cmpO (ck_ne hc) ((pv_sub_ix hc (pp_var 0 (pv 0)) (pp_var 2 (pv 2))).pp) ((pv_sub_ix hc (pp_var 0 (pv 0)) ((pv_sub (pp_var 2 (pv 2)) (pp_var 1 (pv 1))).pp)).pp)) (pds_one (pd_set (i := 1) nd rfl (.inl rfl) (pv_add (pp_var 2 (pv 2)) pv_int.pp) (hfx := pfree))) pds_nil))) (pds_one (pd_ret (pv_var 1 rfl (pv 1))))))

abbrev s_next_beginning : Stmt := topS 2
theorem sc_next_beginning : FnScope ["q", "word", "some", "part", "i", "x", "k"] ["q", "word"] (defScope s_next_beginning) := ⟨rfl, rfl, rfl, by decide +kernel, rfl, by decide +kernel, by decide +kernel⟩
def d_next_beginning : DenS Unit := sSeq (sSet 2 (dComp [4, 5] (dEnum (dVar 1)) (bTup (bCons (bNm 4) (bCons (bNm 5) bNil))) (dB (dBin dLt (dVar 5) (dBin dSub (dVar 0) (dC (.int 1))))) (dVar 4))) (sSeq (sIf (dB (dBin dEq (dVar 2) (dLst dANil))) (sRet (dC .none)) sSkip) (sSeq (sSet 3 (dTup (dAStar (dSl slD (dVar 1) dONone (dOSome (dBin ixD (dVar 2) (dUn dNeg (dC (.int 1)))))) (dACons (dBin dAdd (dBin ixD (dVar 1) (dBin ixD (dVar 2) (dUn dNeg (dC (.int 1))))) (dC (.int 1))) dANil)))) (sRet (dApp dTuple (dACons (dComp [6] (dRange1 (dApp dLen (dACons (dVar 1) dANil))) (bNm 6) dTrue (dBin ixD (dVar 3) (dBin dMod (dVar 6) (dApp dLen (dACons (dVar 3) dANil))))) dANil)))))
def r_next_beginning (ds : List PyData) : Option PyData := runP 7 d_next_beginning ds
theorem g_next_beginning {P : Program} {w : World} {K : PySem.W.Frag} {mg : Str → Option Value} {base : Heap} (b : Blt mg) {f : Addr} {fd : FuncData} (F : Fun K "next_beginning" "next_beginning" s_next_beginning f fd) : FnG P w K mg base 1 f fd ["q", "word"] (spP K 2 r_next_beginning) :=
  fnG_pure (fun _ => false) F sc_next_beginning (by decide) fun cdv A outer s H hc => (by
    have nd := sc_next_beginning.nd
    exact pds_cons (pd_setLc (i := 2) rfl nd rfl rfl (by rfl) (pip_enum (by rfl) b.enumerate_ (pp_var 1 (pv 1))) (own := [("i", 4), ("x", 5)]) (show blkC ["q", "word", "some", "part", "i", "x", "k"] (defScope s_next_beginning) _ [("i", 4), ("x", 5)] = true from by decide +kernel) (fun _ _ _ _ _ => pgd_tup rfl (pgds_cons (pgd_nm (i := 4) nd rfl (.inl rfl) (hfx := pfree)) (pgds_cons (pgd_nm (i := 5) nd rfl (.inl rfl) (hfx := pfree)) pgds_nil)) (by first | exact len_cons (len_cons len_nil) | (intro ds e e2 h; exact len_cons (len_cons len_nil) ds e e2 h))) (fun _ _ _ _ _ => ptd_one (pb_cmpO (ck_lt hc.blk) (pp_var 5 (pv 5)) ((pv_sub (pp_var 0 (pv 0)) pv_int.pp).pp))) (fun _ _ _ _ _ => pv_var 4 rfl (pv 4)) (by decide) pfreeL (hfx := pfree)) (pds_cons (pd_if (pb_cmpO (ck_eq hc) (pp_var 2 (pv 2)) ((pn_lst pav_nil).pp)) (pds_one (pd_ret pv_non)) pds_nil) (pds_cons (pd_set (i := 3) nd rfl (.inr rfl) (pv_tup (pav_star (pv_sl (pp_var 1 (pv 1)) pov_none (pov_some ((pv_sub_ix hc (pp_var 2 (pv 2)) ((pv_neg pv_int.pp).pp)).pp))) (pav_cons (pv_add ((pv_sub_ix hc (pp_var 1 (pv 1)) ((pv_sub_ix hc (pp_var 2 (pv 2)) ((pv_neg pv_int.pp).pp)).pp)).pp) pv_int.pp) pav_nil))) (hfx := pfree)) (pds_one (pd_ret (pv_bi (bi_tuple b.tuple_) (by rfl) (pap_cons ((pn_lc rfl nd ((piv_range1 (by rfl) b.range_ ((pv_bi (bi_len b.len_) (by rfl) (pap_cons (pp_var 1 (pv 1)) pap_nil)).pp)).p) (own := [("k", 6)]) (show blkC ["q", "word", "some", "part", "i", "x", "k"] (defScope s_next_beginning) _ [("k", 6)] = true from by decide +kernel) (fun _ _ _ _ _ => pgd_nm (i := 6) nd rfl (.inl rfl) (hfx := pfree)) (fun _ _ _ _ _ => ptd_nil) (fun _ _ _ _ _ => pv_sub_ix hc.blk (pp_var 3 (pv 3)) ((pv_mod (pp_var 6 (pv 6)) ((pv_bi (bi_len b.len_) (by rfl) (pap_cons (pp_var 3 (pv 3)) pap_nil)).pp)).pp)) (by decide) pfreeL).pp) pap_nil)))))))

abbrev s_beginnings_of : Stmt := topS 3
theorem sc_beginnings_of : FnScope ["q", "n", "found", "here"] ["q", "n"] (defScope s_beginnings_of) := ⟨rfl, rfl, rfl, by decide +kernel, rfl, by decide +kernel, by decide +kernel⟩
def d_beginnings_of : DenS Unit := sSeq (sPar [2, 3] (dACons (dLst dANil) (dACons (dBin dMul (dTup (dACons (dC (.int 0)) dANil)) (dVar 1)) dANil))) (sSeq (sWhile 1000 (dB (dBin (isD true) (dVar 3) (dC .none))) (sSeq (sUpd 2 appD (dVar 3)) (sSet 3 (dApp r_next_beginning (dACons (dVar 0) (dACons (dVar 3) dANil)))))) (sRet (dApp dTuple (dACons (dVar 2) dANil))))
def r_beginnings_of (ds : List PyData) : Option PyData := runP 4 d_beginnings_of ds
theorem g_beginnings_of {P : Program} {w : World} {K : PySem.W.Frag} {mg : Str → Option Value} {base : Heap} (b : Blt mg) (D_next_beginning : DefG P w K mg base 1 "next_beginning" (spP K 2 r_next_beginning)) {f : Addr} {fd : FuncData} (F : Fun K "beginnings_of" "beginnings_of" s_beginnings_of f fd) : FnG P w K mg base 2 f fd ["q", "n"] (spP K 2 r_beginnings_of) :=
  fnG_pure (fun i => i == 2) F sc_beginnings_of (by decide) fun cdv A outer s H hc => (by
    have nd := sc_beginnings_of.nd
    exact pds_cons (pd_par2 (i := 2) (j := 3) rfl nd rfl rfl (by decide) rfl rfl (pam_n (pn_lst pav_nil) (pam_v (pv_mul ((pv_tup (pav_cons pv_int pav_nil)).pp) (pp_var 1 (pv 1))) pam_nil)) (hf := pfreeL)) (pds_cons (pd_while 1000 PassesOwn.never (pb_cmpO ck_isNot (pp_var 3 (pv 3)) pv_non.pp) (pds_cons (pd_append (i := 2) (pv_var 3 rfl (pv 3)) (hx := pv 2)) (pds_one (pd_set (i := 3) nd rfl (.inl rfl) (pv_call (D_next_beginning.mono (by decide)) hc (by rfl) (pav_cons (pv_var 0 rfl (pv 0)) (pav_cons (pv_var 3 rfl (pv 3)) pav_nil)) (hlen := (alen_cons (alen_cons alen_nil)))) (hfx := pfree))))) (pds_one (pd_ret (pv_bi (bi_tuple b.tuple_) (by rfl) (pap_cons (pp_var 2 (pv 2)) pap_nil))))))

abbrev s_is_least_beginning : Stmt := topS 4
theorem sc_is_least_beginning : FnScope ["word"] ["word"] (defScope s_is_least_beginning) := ⟨rfl, rfl, rfl, by decide +kernel, rfl, by decide +kernel, by decide +kernel⟩
def d_is_least_beginning : DenS Unit := sRet (dBin dEq (dBin dMod (dApp dLen (dACons (dVar 0) dANil)) (dApp r_longest_prime (dACons (dVar 0) dANil))) (dC (.int 0)))
def r_is_least_beginning (ds : List PyData) : Option PyData := runP 1 d_is_least_beginning ds
theorem g_is_least_beginning {P : Program} {w : World} {K : PySem.W.Frag} {mg : Str → Option Value} {base : Heap} (b : Blt mg) (D_longest_prime : DefG P w K mg base 1 "longest_prime" (spP K 1 r_longest_prime)) {f : Addr} {fd : FuncData} (F : Fun K "is_least_beginning" "is_least_beginning" s_is_least_beginning f fd) : FnG P w K mg base 2 f fd ["word"] (spP K 1 r_is_least_beginning) :=
  fnG_pure (fun _ => false) F sc_is_least_beginning (by decide) fun cdv A outer s H hc => (by
    have nd := sc_is_least_beginning.nd
    exact pds_one (pd_ret (pv_cmpO (ck_eq hc) ((pv_mod ((pv_bi (bi_len b.len_) (by rfl) (pap_cons (pp_var 0 (pv 0)) pap_nil)).pp) ((pv_call (D_longest_prime.mono (by decide)) hc (by rfl) (pav_cons (pv_var 0 rfl (pv 0)) pav_nil) (hlen := (alen_cons alen_nil))).pp)).pp) pv_int.pp)))

abbrev s_least_words : Stmt := topS 5
theorem sc_least_words : FnScope ["q", "n", "word"] ["q", "n"] (defScope s_least_words) := ⟨rfl, rfl, rfl, by decide +kernel, rfl, by decide +kernel, by decide +kernel⟩
def d_least_words : DenS Unit := sRet (dApp dTuple (dACons (dComp [2] (dItems (dApp r_beginnings_of (dACons (dVar 0) (dACons (dVar 1) dANil)))) (bNm 2) (dB (dApp r_is_least_beginning (dACons (dVar 2) dANil))) (dVar 2)) dANil))
def r_least_words (ds : List PyData) : Option PyData := runP 3 d_least_words ds
theorem g_least_words {P : Program} {w : World} {K : PySem.W.Frag} {mg : Str → Option Value} {base : Heap} (b : Blt mg) (D_beginnings_of : DefG P w K mg base 2 "beginnings_of" (spP K 2 r_beginnings_of)) (D_is_least_beginning : DefG P w K mg base 2 "is_least_beginning" (spP K 1 r_is_least_beginning)) {f : Addr} {fd : FuncData} (F : Fun K "least_words" "least_words" s_least_words f fd) : FnG P w K mg base 3 f fd ["q", "n"] (spP K 2 r_least_words) :=
  fnG_pure (fun _ => false) F sc_least_words (by decide) fun cdv A outer s H hc => (by
    have nd := sc_least_words.nd
    exact pds_one (pd_ret (pv_bi (bi_tuple b.tuple_) (by rfl) (pap_cons ((pn_lc rfl nd (pip_seq ((pv_call (D_beginnings_of.mono (by decide)) hc (by rfl) (pav_cons (pv_var 0 rfl (pv 0)) (pav_cons (pv_var 1 rfl (pv 1)) pav_nil)) (hlen := (alen_cons (alen_cons alen_nil)))).pp)) (own := [("word", 2)]) (show blkC ["q", "n", "word"] (defScope s_least_words) _ [("word", 2)] = true from by decide +kernel) (fun _ _ _ _ _ => pgd_nm (i := 2) nd rfl (.inl rfl) (hfx := pfree)) (fun _ _ _ _ _ => ptd_one (pb_val (pv_call (D_is_least_beginning.mono (by decide)) hc.blk (by rfl) (pav_cons (pv_var 2 rfl (pv 2)) pav_nil) (hlen := (alen_cons alen_nil))))) (fun _ _ _ _ _ => pv_var 2 rfl (pv 2)) (by decide) pfreeL).pp) pap_nil))))

abbrev s_turned_word : Stmt := topS 7
theorem sc_turned_word : FnScope ["word", "i"] ["word", "i"] (defScope s_turned_word) := ⟨rfl, rfl, rfl, by decide +kernel, rfl, by decide +kernel, by decide +kernel⟩
def d_turned_word : DenS Unit := sSeq (sSet 1 (dBin dMod (dVar 1) (dApp dLen (dACons (dVar 0) dANil)))) (sRet (dBin dAdd (dSl slD (dVar 0) (dOSome (dVar 1)) dONone) (dSl slD (dVar 0) dONone (dOSome (dVar 1)))))
def r_turned_word (ds : List PyData) : Option PyData := runP 2 d_turned_word ds
theorem g_turned_word {P : Program} {w : World} {K : PySem.W.Frag} {mg : Str → Option Value} {base : Heap} (b : Blt mg) {f : Addr} {fd : FuncData} (F : Fun K "turned_word" "turned_word" s_turned_word f fd) : FnG P w K mg base 1 f fd ["word", "i"] (spP K 2 r_turned_word) :=
  fnG_pure (fun _ => false) F sc_turned_word (by decide) fun cdv A outer s H hc => (by
    have nd := sc_turned_word.nd
    exact pds_cons (pd_set (i := 1) nd rfl (.inl rfl) (pv_mod (pp_var 1 (pv 1)) ((pv_bi (bi_len b.len_) (by rfl) (pap_cons (pp_var 0 (pv 0)) pap_nil)).pp)) (hfx := pfree)) (pds_one (pd_ret (pv_add ((pv_sl (pp_var 0 (pv 0)) (pov_some (pp_var 1 (pv 1))) pov_none).pp) ((pv_sl (pp_var 0 (pv 0)) pov_none (pov_some (pp_var 1 (pv 1)))).pp)))))

abbrev s_least_of_ring : Stmt := topS 8
theorem sc_least_of_ring : FnScope ["word", "i"] ["word"] (defScope s_least_of_ring) := ⟨rfl, rfl, rfl, by decide +kernel, rfl, by decide +kernel, by decide +kernel⟩
def d_least_of_ring : DenS Unit := sRet (dApp dMin (dACons (dComp [1] (dRange1 (dApp dLen (dACons (dVar 0) dANil))) (bNm 1) dTrue (dApp r_turned_word (dACons (dVar 0) (dACons (dVar 1) dANil)))) dANil))
def r_least_of_ring (ds : List PyData) : Option PyData := runP 2 d_least_of_ring ds
theorem g_least_of_ring {P : Program} {w : World} {K : PySem.W.Frag} {mg : Str → Option Value} {base : Heap} (b : Blt mg) (D_turned_word : DefG P w K mg base 1 "turned_word" (spP K 2 r_turned_word)) {f : Addr} {fd : FuncData} (F : Fun K "least_of_ring" "least_of_ring" s_least_of_ring f fd) : FnG P w K mg base 2 f fd ["word"] (spP K 1 r_least_of_ring) :=
  fnG_pure (fun _ => false) F sc_least_of_ring (by decide) fun cdv A outer s H hc => (by
    have nd := sc_least_of_ring.nd
    exact pds_one (pd_ret (pv_bi (bi_min hc rfl b.min_) (by rfl) (pap_cons ((pn_lc rfl nd ((piv_range1 (by rfl) b.range_ ((pv_bi (bi_len b.len_) (by rfl) (pap_cons (pp_var 0 (pv 0)) pap_nil)).pp)).p) (own := [("i", 1)]) (show blkC ["word", "i"] (defScope s_least_of_ring) _ [("i", 1)] = true from by decide +kernel) (fun _ _ _ _ _ => pgd_nm (i := 1) nd rfl (.inl rfl) (hfx := pfree)) (fun _ _ _ _ _ => ptd_nil) (fun _ _ _ _ _ => pv_call (D_turned_word.mono (by decide)) hc.blk (by rfl) (pav_cons (pv_var 0 rfl (pv 0)) (pav_cons (pv_var 1 rfl (pv 1)) pav_nil)) (hlen := (alen_cons (alen_cons alen_nil)))) (by decide) pfreeL).pp) pap_nil))))

abbrev s_least_of_band : Stmt := topS 10
theorem sc_least_of_band : FnScope ["word"] ["word"] (defScope s_least_of_band) := ⟨rfl, rfl, rfl, by decide +kernel, rfl, by decide +kernel, by decide +kernel⟩
def d_least_of_band : DenS Unit := sRet (dApp dMin (dACons (dApp r_least_of_ring (dACons (dVar 0) dANil)) (dACons (dApp r_least_of_ring (dACons (dUn revD (dVar 0)) dANil)) dANil)))
def r_least_of_band (ds : List PyData) : Option PyData := runP 1 d_least_of_band ds
theorem g_least_of_band {P : Program} {w : World} {K : PySem.W.Frag} {mg : Str → Option Value} {base : Heap} (b : Blt mg) (D_least_of_ring : DefG P w K mg base 2 "least_of_ring" (spP K 1 r_least_of_ring)) {f : Addr} {fd : FuncData} (F : Fun K "least_of_band" "least_of_band" s_least_of_band f fd) : FnG P w K mg base 3 f fd ["word"] (spP K 1 r_least_of_band) :=
  fnG_pure (fun _ => false) F sc_least_of_band (by decide) fun cdv A outer s H hc => (by
    have nd := sc_least_of_band.nd
    exact pds_one (pd_ret (pv_bi (bi_min hc rfl b.min_) (by rfl) (pap_cons ((pv_call (D_least_of_ring.mono (by decide)) hc (by rfl) (pav_cons (pv_var 0 rfl (pv 0)) pav_nil) (hlen := (alen_cons alen_nil))).pp) (pap_cons ((pv_call (D_least_of_ring.mono (by decide)) hc (by rfl) (pav_cons (pv_rev (pp_var 0 (pv 0))) pav_nil) (hlen := (alen_cons alen_nil))).pp) pap_nil)))))

abbrev s_is_same_over : Stmt := topS 11
theorem sc_is_same_over : FnScope ["word"] ["word"] (defScope s_is_same_over) := ⟨rfl, rfl, rfl, by decide +kernel, rfl, by decide +kernel, by decide +kernel⟩
def d_is_same_over : DenS Unit := sRet (dBin dEq (dApp r_least_of_ring (dACons (dVar 0) dANil)) (dApp r_least_of_ring (dACons (dUn revD (dVar 0)) dANil)))
def r_is_same_over (ds : List PyData) : Option PyData := runP 1 d_is_same_over ds
theorem g_is_same_over {P : Program} {w : World} {K : PySem.W.Frag} {mg : Str → Option Value} {base : Heap} (b : Blt mg) (D_least_of_ring : DefG P w K mg base 2 "least_of_ring" (spP K 1 r_least_of_ring)) {f : Addr} {fd : FuncData} (F : Fun K "is_same_over" "is_same_over" s_is_same_over f fd) : FnG P w K mg base 3 f fd ["word"] (spP K 1 r_is_same_over) :=
  fnG_pure (fun _ => false) F sc_is_same_over (by decide) fun cdv A outer s H hc => (by
    have nd := sc_is_same_over.nd
    exact pds_one (pd_ret (pv_cmpO (ck_eq hc) ((pv_call (D_least_of_ring.mono (by decide)) hc (by rfl) (pav_cons (pv_var 0 rfl (pv 0)) pav_nil) (hlen := (alen_cons alen_nil))).pp) ((pv_call (D_least_of_ring.mono (by decide)) hc (by rfl) (pav_cons (pv_rev (pp_var 0 (pv 0))) pav_nil) (hlen := (alen_cons alen_nil))).pp))))

abbrev s_least_bands : Stmt := topS 12
theorem sc_least_bands : FnScope ["q", "n", "word"] ["q", "n"] (defScope s_least_bands) := ⟨rfl, rfl, rfl, by decide +kernel, rfl, by decide +kernel, by decide +kernel⟩
def d_least_bands : DenS Unit := sRet (dApp dTuple (dACons (dComp [2] (dItems (dApp r_least_words (dACons (dVar 0) (dACons (dVar 1) dANil)))) (bNm 2) (dB (dBin dEq (dApp r_least_of_band (dACons (dVar 2) dANil)) (dVar 2))) (dVar 2)) dANil))
def r_least_bands (ds : List PyData) : Option PyData := runP 3 d_least_bands ds
theorem g_least_bands {P : Program} {w : World} {K : PySem.W.Frag} {mg : Str → Option Value} {base : Heap} (b : Blt mg) (D_least_words : DefG P w K mg base 3 "least_words" (spP K 2 r_least_words)) (D_least_of_band : DefG P w K mg base 3 "least_of_band" (spP K 1 r_least_of_band)) {f : Addr} {fd : FuncData} (F : Fun K "least_bands" "least_bands" s_least_bands f fd) : FnG P w K mg base 4 f fd ["q", "n"] (spP K 2 r_least_bands) :=
  fnG_pure (fun _ => false) F sc_least_bands (by decide) fun cdv A outer s H hc => (by
    have nd := sc_least_bands.nd
    exact pds_one (pd_ret (pv_bi (bi_tuple b.tuple_) (by rfl) (pap_cons ((pn_lc rfl nd (pip_seq ((pv_call (D_least_words.mono (by decide)) hc (by rfl) (pav_cons (pv_var 0 rfl (pv 0)) (pav_cons (pv_var 1 rfl (pv 1)) pav_nil)) (hlen := (alen_cons (alen_cons alen_nil)))).pp)) (own := [("word", 2)]) (show blkC ["q", "n", "word"] (defScope s_least_bands) _ [("word", 2)] = true from by decide +kernel) (fun _ _ _ _ _ => pgd_nm (i := 2) nd rfl (.inl rfl) (hfx := pfree)) (fun _ _ _ _ _ => ptd_one (pb_cmpO (ck_eq hc.blk) ((pv_call (D_least_of_band.mono (by decide)) hc.blk (by rfl) (pav_cons (pv_var 2 rfl (pv 2)) pav_nil) (hlen := (alen_cons alen_nil))).pp) (pp_var 2 (pv 2)))) (fun _ _ _ _ _ => pv_var 2 rfl (pv 2)) (by decide) pfreeL).pp) pap_nil))))

abbrev s__law_source : Stmt := topS 14
theorem sc__law_source : FnScope ["script", "mixed", "cell"] ["script"] (defScope s__law_source) := ⟨rfl, rfl, rfl, by decide +kernel, rfl, by decide +kernel, by decide +kernel⟩
theorem g__law_source {P : Program} {w : World} {K : PySem.W.Frag} {mg : Str → Option Value} {base : Heap} (b : Blt mg) {f : Addr} {fd : FuncData} (F : Fun K "_law_source" "_law_source" s__law_source f fd) : FnG P w K mg base 1 f fd ["script"] (spScr K) :=
  fnG_source F sc__law_source rfl fun cdv A outer s H a ns fz => (by
    intro X hc
    have nd := sc__law_source.nd
    exact ⟨pd_set (i := 1) nd rfl (.inl rfl) pv_int (hfx := (qfree (by decide))), pd_for PassesOwn.never rfl (piv_scr (pv 0)) (pgd_nm (i := 2) nd rfl (.inl rfl) (hfx := (qfree (by decide)))) (pds_one (pd_set (i := 1) nd rfl (.inl rfl) (pv_mod ((pv_bi (bi_int b.int_) (by rfl) (pap_cons ((pv_add ((pv_add ((pv_mul (pp_var 1 (pv 1)) pv_int.pp).pp) ((pv_mul (pp_var 2 (pv 2)) pv_int.pp).pp)).pp) pv_int.pp).pp) pap_nil)).pp) pv_int.pp) (hfx := (qfree (by decide))))), pn_rev ((pn_lc rfl nd ((piv_scr (pv 0)).p) (own := [("cell", 2)]) (show blkC ["script", "mixed", "cell"] (defScope s__law_source) _ [("cell", 2)] = true from by decide +kernel) (fun _ _ _ _ _ => pgd_nm (i := 2) nd rfl (.inl rfl) (hfx := (qfree (by decide)))) (fun _ _ _ _ _ => ptd_nil) (fun _ _ _ _ _ => pv_bi (bi_abs b.abs_) (by rfl) (pap_cons (pp_var 2 (pv 2)) pap_nil)) (by decide) (qfreeL (by decide))).pp), pv 1⟩)

abbrev s__law_pick : Stmt := topS 15
theorem sc__law_pick : FnScope ["source", "many", "left", "mixed"] ["source", "many"] (defScope s__law_pick) := ⟨rfl, rfl, rfl, by decide +kernel, rfl, by decide +kernel, by decide +kernel⟩
def d__law_pick : DenS Src := sSeq (sWhile 1000 (dBAnd (dB (dBin dGt (dVar 1) (dC (.int 1)))) (dBAnd (dB (dBin dLt (dSrc .left) (dC (.int 2)))) (dB (dBin dGt dSrcLen (dC (.int 0)))))) sSrcPop) (sSeq (sSet 2 (dSrc .left)) (sSeq (sIf (dBOr (dB (dBin dLt (dVar 1) (dC (.int 2)))) (dB (dBin dGt (dVar 2) (dC (.int 1))))) (sSeq (sSrc .left (dBin dDiv (dVar 2) (dApp dMax (dACons (dC (.int 1)) (dACons (dVar 1) dANil))))) (sRet (dBin dMod (dApp dInt (dACons (dVar 2) dANil)) (dApp dMax (dACons (dC (.int 1)) (dACons (dVar 1) dANil)))))) sSkip) (sSeq (sSrc .turn (dBin dAdd (dSrc .turn) (dC (.int 1)))) (sSeq (sSet 3 (dBin dMod (dApp dInt (dACons (dBin dAdd (dSrc .mixed) (dBin dMul (dSrc .turn) (dC (.int 104729)))) dANil)) (dC (.int 998244353)))) (sSeq (sSet 3 (dBin dMod (dApp dInt (dACons (dBin dAdd (dBin dMul (dVar 3) (dVar 3)) (dBin dMul (dSrc .turn) (dC (.int 17)))) dANil)) (dC (.int 2147483647)))) (sSeq (sSrc .mixed (dVar 3)) (sRet (dBin dMod (dApp dInt (dACons (dBin dDiv (dVar 3) (dC (.int 16))) dANil)) (dVar 1)))))))))
def r__law_pick (ds : List PyData) (s : Src) : Option (PyData × Src) := runS 4 d__law_pick ds s
theorem g__law_pick {P : Program} {w : World} {K : PySem.W.Frag} {mg : Str → Option Value} {base : Heap} (b : Blt mg) {f : Addr} {fd : FuncData} (F : Fun K "_law_pick" "_law_pick" s__law_pick f fd) : FnG P w K mg base 1 f fd ["source", "many"] (spS K 1 r__law_pick) :=
  fnG_src (fun _ => false) F sc__law_pick (by decide) fun cdv A outer s H s0 c0 hc => (by
    have nd := sc__law_pick.nd
    exact pds_cons (pd_while 1000 PassesOwn.never ((pbw_and (pb_cmpO (ck_gt hc) (pp_var 1 (pv 1)) pv_int.pp) (pbw_and (pb_cmpO (ck_lt hc) ((pv_src .left hc (pv 0)).pp) pv_int.pp) (pbw_and1 (pb_cmpO (ck_gt hc) ((pv_srcLen hc (by rfl) b.len_ (pv 0)).pp) pv_int.pp)))).pb) (pds_one (pd_srcPop hc (pv 0) (pv 0)))) (pds_cons (pd_set (i := 2) nd rfl (.inl rfl) (pv_src .left hc (pv 0)) (hfx := (sfree (by decide)))) (pds_cons (pd_if ((pbw_or (pb_cmpO (ck_lt hc) (pp_var 1 (pv 1)) pv_int.pp) (pbw_or1 (pb_cmpO (ck_gt hc) (pp_var 2 (pv 2)) pv_int.pp))).pb) (pds_cons (pd_src .left hc (pv_div (pp_var 2 (pv 2)) ((pv_bi (bi_max hc rfl b.max_) (by rfl) (pap_cons pv_int.pp (pap_cons (pp_var 1 (pv 1)) pap_nil))).pp)) (pv 0)) (pds_one (pd_ret (pv_mod ((pv_bi (bi_int b.int_) (by rfl) (pap_cons (pp_var 2 (pv 2)) pap_nil)).pp) ((pv_bi (bi_max hc rfl b.max_) (by rfl) (pap_cons pv_int.pp (pap_cons (pp_var 1 (pv 1)) pap_nil))).pp))))) pds_nil) (pds_cons (pd_src .turn hc (pv_add ((pv_src .turn hc (pv 0)).pp) pv_int.pp) (pv 0)) (pds_cons (pd_set (i := 3) nd rfl (.inl rfl) (pv_mod ((pv_bi (bi_int b.int_) (by rfl) (pap_cons ((pv_add ((pv_src .mixed hc (pv 0)).pp) ((pv_mul ((pv_src .turn hc (pv 0)).pp) pv_int.pp).pp)).pp) pap_nil)).pp) pv_int.pp) (hfx := (sfree (by decide)))) (pds_cons (pd_set (i := 3) nd rfl (.inl rfl) (pv_mod ((pv_bi (bi_int b.int_) (by rfl) (pap_cons ((pv_add ((pv_mul (pp_var 3 (pv 3)) (pp_var 3 (pv 3))).pp) ((pv_mul ((pv_src .turn hc (pv 0)).pp) pv_int.pp).pp)).pp) pap_nil)).pp) pv_int.pp) (hfx := (sfree (by decide)))) (pds_cons (pd_src .mixed hc (pv_var 3 rfl (pv 3)) (pv 0)) (pds_one (pd_ret (pv_mod ((pv_bi (bi_int b.int_) (by rfl) (pap_cons ((pv_div (pp_var 3 (pv 3)) pv_int.pp).pp) pap_nil)).pp) (pp_var 1 (pv 1))))))))))))

abbrev s__law_words : Stmt := topS 16
theorem sc__law_words : FnScope ["q", "n", "found", "lap", "late", "word", "x"] ["q", "n"] (defScope s__law_words) := ⟨rfl, rfl, rfl, by decide +kernel, rfl, by decide +kernel, by decide +kernel⟩
def d__law_words : DenS Unit := sSeq (sSet 2 (dLst (dACons (dTup dANil) dANil))) (sSeq (sFor (dRange1 (dVar 1)) (bNm 3) (sSeq (sSet 4 (dLst dANil)) (sSeq (sFor (dItems (dVar 2)) (bNm 5) (sSet 4 (dBin dAdd (dVar 4) (dComp [6] (dRange1 (dVar 0)) (bNm 6) dTrue (dBin dAdd (dVar 5) (dTup (dACons (dVar 6) dANil))))))) (sSet 2 (dVar 4))))) (sRet (dVar 2)))
def r__law_words (ds : List PyData) : Option PyData := runP 7 d__law_words ds
theorem g__law_words {P : Program} {w : World} {K : PySem.W.Frag} {mg : Str → Option Value} {base : Heap} (b : Blt mg) {f : Addr} {fd : FuncData} (F : Fun K "_law_words" "_law_words" s__law_words f fd) : FnG P w K mg base 1 f fd ["q", "n"] (spP K 2 r__law_words) :=
  fnG_pure (fun _ => false) F sc__law_words (by decide) fun cdv A outer s H hc => (by
    have nd := sc__law_words.nd
    exact pds_cons (pd_set (i := 2) nd rfl (.inl rfl) ((pn_lst (pav_cons (pv_tup pav_nil) pav_nil)).pv) (hfx := pfree)) (pds_cons (pd_for PassesOwn.never rfl (piv_range1 (by rfl) b.range_ (pp_var 1 (pv 1))) (pgd_nm (i := 3) nd rfl (.inl rfl) (hfx := pfree)) (pds_cons (pd_set (i := 4) nd rfl (.inl rfl) ((pn_lst pav_nil).pv) (hfx := pfree)) (pds_cons (pd_for PassesOwn.never rfl (piv_seq (pv_var 2 rfl (pv 2))) (pgd_nm (i := 5) nd rfl (.inr rfl) (hfx := pfree)) (pds_one (pd_set (i := 4) nd rfl (.inl rfl) (pv_add (pp_var 4 (pv 4)) ((pn_lc rfl nd ((piv_range1 (by rfl) b.range_ (pp_var 0 (pv 0))).p) (own := [("x", 6)]) (show blkC ["q", "n", "found", "lap", "late", "word", "x"] (defScope s__law_words) _ [("x", 6)] = true from by decide +kernel) (fun _ _ _ _ _ => pgd_nm (i := 6) nd rfl (.inl rfl) (hfx := pfree)) (fun _ _ _ _ _ => ptd_nil) (fun _ _ _ _ _ => pv_add (pp_var 5 (pv 5)) ((pv_tup (pav_cons (pv_var 6 rfl (pv 6)) pav_nil)).pp)) (by decide) pfreeL).pp)) (hfx := pfree)))) (pds_one (pd_set (i := 2) nd rfl (.inl rfl) (pv_var 4 rfl (pv 4)) (hfx := pfree)))))) (pds_one (pd_ret (pv_var 2 rfl (pv 2))))))

abbrev s__law_turns : Stmt := topS 17
theorem sc__law_turns : FnScope ["word", "i"] ["word"] (defScope s__law_turns) := ⟨rfl, rfl, rfl, by decide +kernel, rfl, by decide +kernel, by decide +kernel⟩
def d__law_turns : DenS Unit := sRet (dComp [1] (dRange1 (dApp dLen (dACons (dVar 0) dANil))) (bNm 1) dTrue (dBin dAdd (dSl slD (dVar 0) (dOSome (dVar 1)) dONone) (dSl slD (dVar 0) dONone (dOSome (dVar 1)))))
def r__law_turns (ds : List PyData) : Option PyData := runP 2 d__law_turns ds
theorem g__law_turns {P : Program} {w : World} {K : PySem.W.Frag} {mg : Str → Option Value} {base : Heap} (b : Blt mg) {f : Addr} {fd : FuncData} (F : Fun K "_law_turns" "_law_turns" s__law_turns f fd) : FnG P w K mg base 1 f fd ["word"] (spP K 1 r__law_turns) :=
  fnG_pure (fun _ => false) F sc__law_turns (by decide) fun cdv A outer s H hc => (by
    have nd := sc__law_turns.nd
    exact pds_one (pd_ret ((pn_lc rfl nd ((piv_range1 (by rfl) b.range_ ((pv_bi (bi_len b.len_) (by rfl) (pap_cons (pp_var 0 (pv 0)) pap_nil)).pp)).p) (own := [("i", 1)]) (show blkC ["word", "i"] (defScope s__law_turns) _ [("i", 1)] = true from by decide +kernel) (fun _ _ _ _ _ => pgd_nm (i := 1) nd rfl (.inl rfl) (hfx := pfree)) (fun _ _ _ _ _ => ptd_nil) (fun _ _ _ _ _ => pv_add ((pv_sl (pp_var 0 (pv 0)) (pov_some (pp_var 1 (pv 1))) pov_none).pp) ((pv_sl (pp_var 0 (pv 0)) pov_none (pov_some (pp_var 1 (pv 1)))).pp)) (by decide) pfreeL).pv)))

abbrev s__law_size : Stmt := topS 18
theorem sc__law_size : FnScope ["source", "most", "q", "n", "many", "size"] ["source", "most"] (defScope s__law_size) := ⟨rfl, rfl, rfl, by decide +kernel, rfl, by decide +kernel, by decide +kernel⟩
def d__law_size : DenS Src := sSeq (sPar [2, 3] (dACons (dBin dAdd (dC (.int 1)) (dApS r__law_pick (dACons (dC (.int 4)) dANil))) (dACons (dBin dAdd (dC (.int 1)) (dApS r__law_pick (dACons (dC (.int 8)) dANil))) dANil))) (sSeq (sPar [4, 5] (dACons (dC (.int 1)) (dACons (dC (.int 0)) dANil))) (sSeq (sWhile 1000 (dBAnd (dB (dBin dLt (dVar 5) (dVar 3))) (dB (dBin dLe (dBin dMul (dVar 4) (dVar 2)) (dVar 1)))) (sPar [4, 5] (dACons (dBin dMul (dVar 4) (dVar 2)) (dACons (dBin dAdd (dVar 5) (dC (.int 1))) dANil)))) (sRet (dTup (dACons (dVar 2) (dACons (dApp dMax (dACons (dC (.int 1)) (dACons (dVar 5) dANil))) dANil))))))
def r__law_size (ds : List PyData) (s : Src) : Option (PyData × Src) := runS 6 d__law_size ds s
theorem g__law_size {P : Program} {w : World} {K : PySem.W.Frag} {mg : Str → Option Value} {base : Heap} (b : Blt mg) (D__law_pick : DefG P w K mg base 1 "_law_pick" (spS K 1 r__law_pick)) {f : Addr} {fd : FuncData} (F : Fun K "_law_size" "_law_size" s__law_size f fd) : FnG P w K mg base 2 f fd ["source", "most"] (spS K 1 r__law_size) :=
  fnG_src (fun _ => false) F sc__law_size (by decide) fun cdv A outer s H s0 c0 hc => (by
    have nd := sc__law_size.nd
    exact pds_cons (pd_par2 (i := 2) (j := 3) rfl nd rfl rfl (by decide) rfl rfl (pam_v (pv_add pv_int.pp ((pv_callS (D__law_pick.mono (by decide)) hc (by rfl) (pav_cons pv_int pav_nil) (hlen := (alen_cons alen_nil)) (hy := pv 0)).pp)) (pam_v (pv_add pv_int.pp ((pv_callS (D__law_pick.mono (by decide)) hc (by rfl) (pav_cons pv_int pav_nil) (hlen := (alen_cons alen_nil)) (hy := pv 0)).pp)) pam_nil)) (hf := (sfreeL (by decide)))) (pds_cons (pd_parT (is := [4, 5]) rfl (pgs_cons (pg_name (i := 4) nd rfl (.inl rfl)) (pgs_cons (pg_name (i := 5) nd rfl (.inl rfl)) pgs_nil)) (pam_v pv_int (pam_v pv_int pam_nil)) (hf := (sfreeL (by decide)))) (pds_cons (pd_while 1000 PassesOwn.never ((pbw_and (pb_cmpO (ck_lt hc) (pp_var 5 (pv 5)) (pp_var 3 (pv 3))) (pbw_and1 (pb_cmpO (ck_le hc) ((pv_mul (pp_var 4 (pv 4)) (pp_var 2 (pv 2))).pp) (pp_var 1 (pv 1))))).pb) (pds_one (pd_par2 (i := 4) (j := 5) rfl nd rfl rfl (by decide) rfl rfl (pam_v (pv_mul (pp_var 4 (pv 4)) (pp_var 2 (pv 2))) (pam_v (pv_add (pp_var 5 (pv 5)) pv_int.pp) pam_nil)) (hf := (sfreeL (by decide)))))) (pds_one (pd_ret (pv_tup (pav_cons (pv_var 2 rfl (pv 2)) (pav_cons (pv_bi (bi_max hc rfl b.max_) (by rfl) (pap_cons pv_int.pp (pap_cons (pp_var 5 (pv 5)) pap_nil))) pav_nil))))))))

abbrev s_law : Stmt := topS 19
theorem sc_law : FnScope ["script", "source", "lap", "q", "n", "words", "due", "same", "word", "one", "other", "many", "k", "turn"] ["script"] (defScope s_law) := ⟨rfl, rfl, rfl, by decide +kernel, rfl, by decide +kernel, by decide +kernel⟩
def d_law_2 : DenS Src := sRet (dBin dEq (dApp r_least_of_band (dACons (dTup (dACons (dC (.int 0)) (dACons (dC (.int 1)) (dACons (dC (.int 0)) (dACons (dC (.int 0)) (dACons (dC (.int 1)) (dACons (dC (.int 1)) dANil))))))) dANil)) (dTup (dACons (dC (.int 0)) (dACons (dC (.int 0)) (dACons (dC (.int 1)) (dACons (dC (.int 0)) (dACons (dC (.int 1)) (dACons (dC (.int 1)) dANil))))))))
def d_law_1_5 : DenS Src := sIf (dB (dBin dNe (dApp r_least_of_band (dACons (dUn revD (dVar 8)) dANil)) (dApp r_least_of_band (dACons (dVar 8) dANil)))) (sRet (dC (.bool false))) sSkip
def d_law_1_4 : DenS Src := sIf (dB (dBin dNe (dApp dRepr (dACons (dLst (dACons (dApp r_least_of_band (dACons (dVar 8) dANil)) (dACons (dApp r_is_same_over (dACons (dVar 8) dANil)) dANil))) dANil)) (dApp dRepr (dACons (dLst (dACons (dApp dMin (dACons (dVar 9) (dACons (dVar 10) dANil))) (dACons (dBin dEq (dVar 9) (dVar 10)) dANil))) dANil)))) (sRet (dC (.bool false))) sSkip
def d_law_1_3 : DenS Src := sPar [9, 10] (dACons (dApp dMin (dACons (dApp r__law_turns (dACons (dVar 8) dANil)) dANil)) (dACons (dApp dMin (dACons (dApp r__law_turns (dACons (dUn revD (dVar 8)) dANil)) dANil)) dANil))
def d_law_1_2_0 : DenS Src := sSet 8 (dBin dAdd (dSl slD (dVar 8) dONone (dOSome (dC (.int 6)))) (dUn revD (dSl slD (dVar 8) dONone (dOSome (dC (.int 6))))))
def d_law_1_2 : DenS Src := sIf (dB (dBin dEq (dApS r__law_pick (dACons (dC (.int 3)) dANil)) (dC (.int 0)))) d_law_1_2_0 sSkip
def d_law_1_1 : DenS Src := sSet 8 (dApp dTuple (dACons (dComp [12] (dRange1 (dBin dAdd (dC (.int 1)) (dApS r__law_pick (dACons (dC (.int 14)) dANil)))) (bNm 12) dTrue (dApS r__law_pick (dACons (dVar 3) dANil))) dANil))
def d_law_1_0 : DenS Src := sSet 3 (dBin dAdd (dC (.int 1)) (dApS r__law_pick (dACons (dC (.int 5)) dANil)))
def d_law_1 : DenS Src := sFor (dRange1 (dC (.int 8))) (bNm 13) (sSeq d_law_1_0 (sSeq d_law_1_1 (sSeq d_law_1_2 (sSeq d_law_1_3 (sSeq d_law_1_4 d_law_1_5)))))
def d_law_0_6 : DenS Src := sIf (dB (dBin dNe (dBin dMul (dC (.int 2)) (dVar 7)) (dIf (dB (dBin dEq (dBin dMod (dApp dInt (dACons (dVar 4) dANil)) (dC (.int 2))) (dC (.int 1)))) (dBin dMul (dC (.int 2)) (dVar 11)) (dBin dMul (dBin dAdd (dVar 3) (dC (.int 1))) (dVar 11))))) (sRet (dC (.bool false))) sSkip
def d_law_0_5 : DenS Src := sFor (dRange1 (dBin dDiv (dBin dAdd (dVar 4) (dC (.int 1))) (dC (.int 2)))) (bNm 12) (sSet 11 (dBin dMul (dVar 11) (dVar 3)))
def d_law_0_3 : DenS Src := sIf (dB (dBin dNe (dApp dRepr (dACons (dApp r_least_bands (dACons (dVar 3) (dACons (dVar 4) dANil))) dANil)) (dApp dRepr (dACons (dApp dTuple (dACons (dVar 6) dANil)) dANil)))) (sRet (dC (.bool false))) sSkip
def d_law_0_2_2 : DenS Src := sSet 7 (dBin dAdd (dVar 7) (dApp dInt (dACons (dAnd (dBin dEq (dVar 8) (dVar 9)) (dBin dEq (dVar 9) (dVar 10))) dANil)))
def d_law_0_2_1 : DenS Src := sIf (dBAnd (dB (dBin dEq (dVar 8) (dVar 9))) (dB (dBin dLe (dVar 9) (dVar 10)))) (sUpd 6 appD (dVar 8)) sSkip
def d_law_0_2_0 : DenS Src := sPar [9, 10] (dACons (dApp dMin (dACons (dApp r__law_turns (dACons (dVar 8) dANil)) dANil)) (dACons (dApp dMin (dACons (dApp r__law_turns (dACons (dUn revD (dVar 8)) dANil)) dANil)) dANil))
def d_law_0_2 : DenS Src := sFor (dItems (dVar 5)) (bNm 8) (sSeq d_law_0_2_0 (sSeq d_law_0_2_1 d_law_0_2_2))
def d_law_0_1 : DenS Src := sPar [5, 6, 7] (dACons (dApp r__law_words (dACons (dVar 3) (dACons (dVar 4) dANil))) (dACons (dLst dANil) (dACons (dC (.int 0)) dANil)))
def d_law_0_0 : DenS Src := sAsg (dApS r__law_size (dACons (dBin ixD (dLst (dACons (dC (.int 40)) (dACons (dC (.int 150)) (dACons (dC (.int 400)) dANil)))) (dVar 2)) dANil)) (bTup (bCons (bNm 3) (bCons (bNm 4) bNil)))
def d_law_0 : DenS Src := sFor (dRange1 (dC (.int 3))) (bNm 2) (sSeq d_law_0_0 (sSeq d_law_0_1 (sSeq d_law_0_2 (sSeq d_law_0_3 (sSeq (sSet 11 (dC (.int 1))) (sSeq d_law_0_5 d_law_0_6))))))
def d_law : DenS Src := sSeq d_law_0 (sSeq d_law_1 d_law_2)
theorem g_law {P : Program} {w : World} {K : PySem.W.Frag} {mg : Str → Option Value} {base : Heap} (b : Blt mg) (D_least_of_band : DefG P w K mg base 3 "least_of_band" (spP K 1 r_least_of_band)) (D_is_same_over : DefG P w K mg base 3 "is_same_over" (spP K 1 r_is_same_over)) (D_least_bands : DefG P w K mg base 4 "least_bands" (spP K 2 r_least_bands)) (D__law_source : DefG P w K mg base 1 "_law_source" (spScr K)) (D__law_pick : DefG P w K mg base 1 "_law_pick" (spS K 1 r__law_pick)) (D__law_words : DefG P w K mg base 1 "_law_words" (spP K 2 r__law_words)) (D__law_turns : DefG P w K mg base 1 "_law_turns" (spP K 1 r__law_turns)) (D__law_size : DefG P w K mg base 2 "_law_size" (spS K 1 r__law_size)) (hden : ∀ s : Src, ∃ e s', d_law (List.replicate 14 none) s = some ((.ret (.bool true), e), s')) {f : Addr} {fd : FuncData} (F : Fun K "law" "law" s_law f fd) : FnG P w K mg base 5 f fd ["script"] (spLaw K) :=
  fnG_law (fun i => i == 6) F sc_law (D__law_source.mono (by decide)) rfl hden fun cdv A outer s H => (by
    intro X hc
    have nd := sc_law.nd
    exact ⟨ps_set (i := 1) nd rfl (.inr rfl) (pe_callG (D__law_source.mono (by decide)) hc (by rfl) (pa_cons (pv 0) pa_nil)), fun s0 c0 => pds_cons (pd_for PassesOwn.never rfl (piv_range1 (by rfl) b.range_ pv_int.pp) (pgd_nm (i := 2) nd rfl (.inl rfl) (hfx := (sfree (by decide)))) (pds_cons (pd_asg (pv_callS (D__law_size.mono (by decide)) hc (by rfl) (pav_cons (pv_sub_ix hc ((pn_lst (pav_cons pv_int (pav_cons pv_int (pav_cons pv_int pav_nil)))).pp) (pp_var 2 (pv 2))) pav_nil) (hlen := (alen_cons alen_nil)) (hy := pv 1)) (pgd_tup rfl (pgds_cons (pgd_nm (i := 3) nd rfl (.inr rfl) (hfx := (sfree (by decide)))) (pgds_cons (pgd_nm (i := 4) nd rfl (.inl rfl) (hfx := (sfree (by decide)))) pgds_nil)) (by first | exact len_cons (len_cons len_nil) | (intro ds e e2 h; exact len_cons (len_cons len_nil) ds e e2 h)))) (pds_cons (pd_par3 (i := 5) (j := 6) (l := 7) rfl nd rfl rfl rfl (by decide) (by decide) (by decide) rfl rfl rfl (pam_v (pv_call (D__law_words.mono (by decide)) hc (by rfl) (pav_cons (pv_var 3 rfl (pv 3)) (pav_cons (pv_var 4 rfl (pv 4)) pav_nil)) (hlen := (alen_cons (alen_cons alen_nil)))) (pam_n (pn_lst pav_nil) (pam_v pv_int pam_nil))) (hf := (sfreeL (by decide)))) (pds_cons (pd_for PassesOwn.never rfl (piv_seq (pv_var 5 rfl (pv 5))) (pgd_nm (i := 8) nd rfl (.inl rfl) (hfx := (sfree (by decide)))) (pds_cons (pd_par2 (i := 9) (j := 10) rfl nd rfl rfl (by decide) rfl rfl (pam_v (pv_bi (bi_min hc rfl b.min_) (by rfl) (pap_cons ((pv_call (D__law_turns.mono (by decide)) hc (by rfl) (pav_cons (pv_var 8 rfl (pv 8)) pav_nil) (hlen := (alen_cons alen_nil))).pp) pap_nil)) (pam_v (pv_bi (bi_min hc rfl b.min_) (by rfl) (pap_cons ((pv_call (D__law_turns.mono (by decide)) hc (by rfl) (pav_cons (pv_rev (pp_var 8 (pv 8))) pav_nil) (hlen := (alen_cons alen_nil))).pp) pap_nil)) pam_nil)) (hf := (sfreeL (by decide)))) (pds_cons (pd_if ((pbw_and (pb_cmpO (ck_eq hc) (pp_var 8 (pv 8)) (pp_var 9 (pv 9))) (pbw_and1 (pb_cmpO (ck_le hc) (pp_var 9 (pv 9)) (pp_var 10 (pv 10))))).pb) (pds_one (pd_append (i := 6) (pv_var 8 rfl (pv 8)) (hx := pv 6))) pds_nil) (pds_one (pd_set (i := 7) nd rfl (.inl rfl) (pv_add (pp_var 7 (pv 7)) ((pv_bi (bi_int b.int_) (by rfl) (pap_cons ((pv_and (pv_cmpO (ck_eq hc) (pp_var 8 (pv 8)) (pp_var 9 (pv 9))) (pv_one (pv_cmpO (ck_eq hc) (pp_var 9 (pv 9)) (pp_var 10 (pv 10))))).pp) pap_nil)).pp)) (hfx := (sfree (by decide)))))))) (pds_cons (pd_if (pb_cmpO (ck_ne hc) ((pv_bi (bi_repr hc b.repr_) (by rfl) (pap_cons ((pv_call (D_least_bands.mono (by decide)) hc (by rfl) (pav_cons (pv_var 3 rfl (pv 3)) (pav_cons (pv_var 4 rfl (pv 4)) pav_nil)) (hlen := (alen_cons (alen_cons alen_nil)))).pp) pap_nil)).pp) ((pv_bi (bi_repr hc b.repr_) (by rfl) (pap_cons ((pv_bi (bi_tuple b.tuple_) (by rfl) (pap_cons (pp_var 6 (pv 6)) pap_nil)).pp) pap_nil)).pp)) (pds_one (pd_ret pv_bl)) pds_nil) (pds_cons (pd_set (i := 11) nd rfl (.inl rfl) pv_int (hfx := (sfree (by decide)))) (pds_cons (pd_for PassesOwn.never rfl (piv_range1 (by rfl) b.range_ ((pv_div ((pv_add (pp_var 4 (pv 4)) pv_int.pp).pp) pv_int.pp).pp)) (pgd_nm (i := 12) nd rfl (.inl rfl) (hfx := (sfree (by decide)))) (pds_one (pd_set (i := 11) nd rfl (.inl rfl) (pv_mul (pp_var 11 (pv 11)) (pp_var 3 (pv 3))) (hfx := (sfree (by decide)))))) (pds_one (pd_if (pb_cmpO (ck_ne hc) ((pv_mul pv_int.pp (pp_var 7 (pv 7))).pp) ((pv_if (pb_cmpO (ck_eq hc) ((pv_mod ((pv_bi (bi_int b.int_) (by rfl) (pap_cons (pp_var 4 (pv 4)) pap_nil)).pp) pv_int.pp).pp) pv_int.pp) (pv_mul pv_int.pp (pp_var 11 (pv 11))) (pv_mul ((pv_add (pp_var 3 (pv 3)) pv_int.pp).pp) (pp_var 11 (pv 11)))).pp)) (pds_one (pd_ret pv_bl)) pds_nil))))))))) (pds_cons (pd_for PassesOwn.never rfl (piv_range1 (by rfl) b.range_ pv_int.pp) (pgd_nm (i := 13) nd rfl (.inl rfl) (hfx := (sfree (by decide)))) (pds_cons (pd_set (i := 3) nd rfl (.inr rfl) (pv_add pv_int.pp ((pv_callS (D__law_pick.mono (by decide)) hc (by rfl) (pav_cons pv_int pav_nil) (hlen := (alen_cons alen_nil)) (hy := pv 1)).pp)) (hfx := (sfree (by decide)))) (pds_cons (pd_set (i := 8) nd rfl (.inl rfl) (pv_bi (bi_tuple b.tuple_) (by rfl) (pap_cons ((pn_lc rfl nd ((piv_range1 (by rfl) b.range_ ((pv_add pv_int.pp ((pv_callS (D__law_pick.mono (by decide)) hc (by rfl) (pav_cons pv_int pav_nil) (hlen := (alen_cons alen_nil)) (hy := pv 1)).pp)).pp)).p) (own := [("k", 12)]) (show blkC ["script", "source", "lap", "q", "n", "words", "due", "same", "word", "one", "other", "many", "k", "turn"] (defScope s_law) _ [("k", 12)] = true from by decide +kernel) (fun _ _ _ _ _ => pgd_nm (i := 12) nd rfl (.inl rfl) (hfx := (sfree (by decide)))) (fun _ _ _ _ _ => ptd_nil) (fun _ _ _ _ _ => pv_callS (D__law_pick.mono (by decide)) hc.blk (by rfl) (pav_cons (pv_var 3 rfl (pv 3)) pav_nil) (hlen := (alen_cons alen_nil)) (hy := pv 1)) (by decide) (sfreeL (by decide))).pp) pap_nil)) (hfx := (sfree (by decide)))) (pds_cons (pd_if (pb_cmpO (ck_eq hc) ((pv_callS (D__law_pick.mono (by decide)) hc (by rfl) (pav_cons pv_int pav_nil) (hlen := (alen_cons alen_nil)) (hy := pv 1)).pp) pv_int.pp) (pds_one (pd_set (i := 8) nd rfl (.inl rfl) (pv_add ((pv_sl (pp_var 8 (pv 8)) pov_none (pov_some pv_int.pp)).pp) ((pv_rev ((pv_sl (pp_var 8 (pv 8)) pov_none (pov_some pv_int.pp)).pp)).pp)) (hfx := (sfree (by decide))))) pds_nil) (pds_cons (pd_par2 (i := 9) (j := 10) rfl nd rfl rfl (by decide) rfl rfl (pam_v (pv_bi (bi_min hc rfl b.min_) (by rfl) (pap_cons ((pv_call (D__law_turns.mono (by decide)) hc (by rfl) (pav_cons (pv_var 8 rfl (pv 8)) pav_nil) (hlen := (alen_cons alen_nil))).pp) pap_nil)) (pam_v (pv_bi (bi_min hc rfl b.min_) (by rfl) (pap_cons ((pv_call (D__law_turns.mono (by decide)) hc (by rfl) (pav_cons (pv_rev (pp_var 8 (pv 8))) pav_nil) (hlen := (alen_cons alen_nil))).pp) pap_nil)) pam_nil)) (hf := (sfreeL (by decide)))) (pds_cons (pd_if (pb_cmpO (ck_ne hc) ((pv_bi (bi_repr hc b.repr_) (by rfl) (pap_cons ((pn_lst (pav_cons (pv_call (D_least_of_band.mono (by decide)) hc (by rfl) (pav_cons (pv_var 8 rfl (pv 8)) pav_nil) (hlen := (alen_cons alen_nil))) (pav_cons (pv_call (D_is_same_over.mono (by decide)) hc (by rfl) (pav_cons (pv_var 8 rfl (pv 8)) pav_nil) (hlen := (alen_cons alen_nil))) pav_nil))).pp) pap_nil)).pp) ((pv_bi (bi_repr hc b.repr_) (by rfl) (pap_cons ((pn_lst (pav_cons (pv_bi (bi_min hc rfl b.min_) (by rfl) (pap_cons (pp_var 9 (pv 9)) (pap_cons (pp_var 10 (pv 10)) pap_nil))) (pav_cons (pv_cmpO (ck_eq hc) (pp_var 9 (pv 9)) (pp_var 10 (pv 10))) pav_nil))).pp) pap_nil)).pp)) (pds_one (pd_ret pv_bl)) pds_nil) (pds_one (pd_if (pb_cmpO (ck_ne hc) ((pv_call (D_least_of_band.mono (by decide)) hc (by rfl) (pav_cons (pv_rev (pp_var 8 (pv 8))) pav_nil) (hlen := (alen_cons alen_nil))).pp) ((pv_call (D_least_of_band.mono (by decide)) hc (by rfl) (pav_cons (pv_var 8 rfl (pv 8)) pav_nil) (hlen := (alen_cons alen_nil))).pp)) (pds_one (pd_ret pv_bl)) pds_nil)))))))) (pds_one (pd_ret (pv_cmpO (ck_eq hc) ((pv_call (D_least_of_band.mono (by decide)) hc (by rfl) (pav_cons (pv_tup (pav_cons pv_int (pav_cons pv_int (pav_cons pv_int (pav_cons pv_int (pav_cons pv_int (pav_cons pv_int pav_nil))))))) pav_nil) (hlen := (alen_cons alen_nil))).pp) ((pv_tup (pav_cons pv_int (pav_cons pv_int (pav_cons pv_int (pav_cons pv_int (pav_cons pv_int (pav_cons pv_int pav_nil))))))).pp)))))⟩)

end W54

set_option Elab.async false
set_option linter.all false
set_option maxRecDepth 100000
set_option maxHeartbeats 1000000
namespace W54
open PySem PySem.Spec PyProof.Rows L2 DL Rg Rc
theorem rev_tw (w : List Int) : revD (tw w) = some (tw w.reverse) := by
  simp only [tw, revD, List.map_reverse]
def band (w : List Int) : List Int := if ilt (lst w.reverse) (lst w) = true then lst w.reverse else lst w
theorem min2_tw (a b : List Int) : dMin [tw a, tw b] = some (tw (if ilt b a = true then b else a)) := by
  show minL [tw a, tw b] = _
  show (if bestOk [tw a, tw b] = true then some (PySem.W.minD (tw a) [tw b]) else none) = _
  rw [if_pos (show bestOk [tw a, tw b] = true from bestOk_tw [a, b])]
  have := minD_tw a [b]
  rw [List.map_cons, List.map_nil] at this
  rw [this]
  rfl
theorem le_tw (a b : List Int) : dLe (tw a) (tw b) = some (.bool (!ilt b a)) := by
  show (if PySem.W.alike (tw a) (tw b) = true ∧ SeqAt.shaped (tw a) = true ∧ SeqAt.shaped (tw b) = true ∧ isSeq (tw a) = true then some (PyData.bool (!PySem.W.dataLt (tw b) (tw a))) else none) = _
  rw [if_pos ⟨alike_tw a b, shaped_tw a, shaped_tw b, rfl⟩, lt_tw]
theorem rev_ne {w : List Int} (h : w ≠ []) : w.reverse ≠ [] := fun z => h (List.reverse_eq_nil_iff.mp z)
theorem leastR {w : List Int} (h : w ≠ []) (hl : w.length ≤ 1000) : r_least_of_ring [tw w] = some (tw (lst w)) := Rc.least_ok h hl
theorem turnsR {w : List Int} (hl : w.length ≤ 1000) : r__law_turns [tw w] = some (.list ((tn w).map tw)) := Rc.turns_ok hl
theorem band_ok {w : List Int} (h : w ≠ []) (hl : w.length ≤ 1000) : r_least_of_band [tw w] = some (tw (band w)) := by
  refine runP_of ?_
  show Runs d_least_of_band [some (tw w)] () _
  simp only [d_least_of_band, runs_seq, runs_set, runs_if, runs_ret, runs_skip, runs_drop, runs_par, runs_asg, runs_for, runs_upd, evb_b, evb_and, evb_or, evb_not, evb_true, ev_c, ev_var, ev_un, ev_bin, ev_app, ev_apS, ev_tup, ev_lst, ev_and, ev_or, ev_not, ev_if, ev_chain, ev_sl, ev_comp, eva_nil, eva_cons, eva_items, eva_range1, eva_range2, evo_none, evo_some, ok_some, ok_none, nxt_nx, nxt_ret, nxt_bk, nxt_ct, turnQ_nx, turnQ_ret, turnQ_bk, turnQ_ct, List.getElem?_cons_succ, List.getElem?_cons_zero, List.set_cons_succ, List.set_cons_zero, Option.some.injEq, exists_eq_left', exists_eq_left, setE, toB, toI, wipeE, bNm, itemsD, leastR h hl, rev_tw, leastR (rev_ne h) (by rw [List.length_reverse]; exact hl), min2_tw]
  rfl
theorem same_ok {w : List Int} (h : w ≠ []) (hl : w.length ≤ 1000) : r_is_same_over [tw w] = some (.bool (decide (lst w = lst w.reverse))) := by
  refine runP_of ?_
  show Runs d_is_same_over [some (tw w)] () _
  simp only [d_is_same_over, runs_seq, runs_set, runs_if, runs_ret, runs_skip, runs_drop, runs_par, runs_asg, runs_for, runs_upd, evb_b, evb_and, evb_or, evb_not, evb_true, ev_c, ev_var, ev_un, ev_bin, ev_app, ev_apS, ev_tup, ev_lst, ev_and, ev_or, ev_not, ev_if, ev_chain, ev_sl, ev_comp, eva_nil, eva_cons, eva_items, eva_range1, eva_range2, evo_none, evo_some, ok_some, ok_none, nxt_nx, nxt_ret, nxt_bk, nxt_ct, turnQ_nx, turnQ_ret, turnQ_bk, turnQ_ct, List.getElem?_cons_succ, List.getElem?_cons_zero, List.set_cons_succ, List.set_cons_zero, Option.some.injEq, exists_eq_left', exists_eq_left, setE, toB, toI, wipeE, bNm, itemsD, leastR h hl, rev_tw, leastR (rev_ne h) (by rw [List.length_reverse]; exact hl), eq_tw]
theorem band_rev (w : List Int) : band w.reverse = band w := by
  unfold band
  rw [List.reverse_reverse]
  by_cases a : ilt (lst w.reverse) (lst w) = true
  · rw [if_pos a, if_neg (by rw [ilt_asymm a]; decide)]
  · rw [if_neg a]
    by_cases b : ilt (lst w) (lst w.reverse) = true
    · rw [if_pos b]
    · rw [if_neg b]
      exact ilt_total (by simpa using a) (by simpa using b)
/-! ## the finite part -/
def dueF (w : List Int) : Bool := decide (w = lst w) && !(ilt (lst w.reverse) (lst w))
def sameF (w : List Int) : Bool := decide (w = lst w) && decide (lst w = lst w.reverse)
def bandsOk (q n : Nat) : Bool := match r_least_bands [.int (q : Int), .int (n : Int)] with
  | some d => peq d (.tuple (((allw q n).filter dueF).map tw))
  | none => false
def sameOk (q n : Nat) : Bool := 2 * ((allw q n).filter sameF).length == (if n % 2 = 1 then 2 * q ^ ((n + 1) / 2) else (q + 1) * q ^ ((n + 1) / 2))
def fits (q n : Nat) : Bool := decide (1 ≤ n) && (decide (n = 1) || decide (q ^ n ≤ 400))
def chk (q n : Nat) : Bool := !fits q n || (bandsOk q n && sameOk q n)
theorem chk1 : ∀ n, n < 9 → chk 1 n = true := by decide +kernel
theorem chk2 : ∀ n, n < 9 → chk 2 n = true := by decide +kernel
theorem chk3 : ∀ n, n < 9 → chk 3 n = true := by decide +kernel
theorem chk4 : ∀ n, n < 9 → chk 4 n = true := by decide +kernel
end W54

set_option Elab.async false
set_option linter.all false
set_option maxRecDepth 100000
set_option maxHeartbeats 1000000
namespace W54
open PySem PySem.Spec PyProof.Rows L2 DL Rg Rc

theorem chk_all {q n : Nat} (h1 : 1 ≤ q) (h4 : q ≤ 4) (hn1 : 1 ≤ n) (hn : n ≤ 8) (hf : n = 1 ∨ q ^ n ≤ 400) : r_least_bands [.int (q : Int), .int (n : Int)] = some (.tuple (((allw q n).filter dueF).map tw)) ∧ 2 * ((allw q n).filter sameF).length = (if n % 2 = 1 then 2 * q ^ ((n + 1) / 2) else (q + 1) * q ^ ((n + 1) / 2)) := by
  have hc : chk q n = true := by
    rcases (by omega : q = 1 ∨ q = 2 ∨ q = 3 ∨ q = 4) with rfl | rfl | rfl | rfl
    · exact chk1 n (by omega)
    · exact chk2 n (by omega)
    · exact chk3 n (by omega)
    · exact chk4 n (by omega)
  have hfit : fits q n = true := by
    unfold fits
    rw [Bool.and_eq_true, Bool.or_eq_true, decide_eq_true_eq, decide_eq_true_eq, decide_eq_true_eq]
    exact ⟨hn1, hf⟩
  unfold chk at hc
  rw [hfit, Bool.not_true, Bool.false_or, Bool.and_eq_true] at hc
  obtain ⟨c1, c2⟩ := hc
  refine ⟨?_, by unfold sameOk at c2; exact eq_of_beq c2⟩
  unfold bandsOk at c1
  split at c1
  · rename_i d e; rw [e, peq_eq c1]
  · cases c1
variable {QS : Fl → DL.Env → Src → Prop} {s : Src} {a2 a3 a4 a5 a6 a7 a8 a9 a10 a11 a12 a13 : Option PyData}
theorem most_ok {lap : Nat} (h : lap < 3) : ∃ m : Nat, m ≤ 400 ∧ ixD (.list [.int 40, .int 150, .int 400]) (.int (lap : Int)) = some (.int m) := by
  rcases (by omega : lap = 0 ∨ lap = 1 ∨ lap = 2) with rfl | rfl | rfl
  · exact ⟨40, by decide, rfl⟩
  · exact ⟨150, by decide, rfl⟩
  · exact ⟨400, by decide, rfl⟩
structure Fit (q n : Nat) : Prop where
  q1 : 1 ≤ q
  q4 : q ≤ 4
  n1 : 1 ≤ n
  n8 : n ≤ 8
  f : n = 1 ∨ q ^ n ≤ 400
theorem Fit.b {q n : Nat} (h : Fit q n) : q ^ n ≤ 400 := by
  rcases h.f with rfl | f
  · rw [Nat.pow_one]; have := h.q4; omega
  · exact f
theorem st0 {lap : Nat} (hl : lap < 3) (h : ∀ (q n : Nat) s', Fit q n → QS .nx [none, none, some (.int lap), some (.int q), some (.int n), a5, a6, a7, a8, a9, a10, a11, a12, a13] s') : Runs d_law_0_0 [none, none, some (.int lap), a3, a4, a5, a6, a7, a8, a9, a10, a11, a12, a13] s QS := by
  obtain ⟨m, hm, em⟩ := most_ok hl
  unfold d_law_0_0
  simp only [runs_seq, runs_set, runs_if, runs_ret, runs_skip, runs_drop, runs_par, runs_asg, runs_for, runs_upd, evb_b, evb_and, evb_or, evb_not, evb_true, ev_c, ev_var, ev_un, ev_bin, ev_app, ev_apS, ev_tup, ev_lst, ev_and, ev_or, ev_not, ev_if, ev_chain, ev_sl, ev_comp, eva_nil, eva_cons, eva_items, eva_range1, eva_range2, evo_none, evo_some, ok_some, ok_none, nxt_nx, nxt_ret, nxt_bk, nxt_ct, turnQ_nx, turnQ_ret, turnQ_bk, turnQ_ct, List.getElem?_cons_succ, List.getElem?_cons_zero, List.set_cons_succ, List.set_cons_zero, Option.some.injEq, exists_eq_left', exists_eq_left, setE, toB, toI, wipeE, bNm, itemsD, List.length_cons, List.length_nil]
  refine ⟨by rw [sizeLine_eq]; omega, ?_⟩
  rw [em, ok_some]
  obtain ⟨p, hp, q, n, e, h1, h2, h3, h4, h5⟩ := Rc.size_ok (most := m) (by omega) s
  refine ⟨p, hp, ?_⟩
  show Gets (bTup (bCons (bNm 3) (bCons (bNm 4) bNil)) p.1 _) _
  rw [e]
  refine ⟨_, rfl, h q n p.2 ⟨h1, h2, h3, h4, ?_⟩⟩
  rcases h5 with h5 | h5
  · exact .inl h5
  · exact .inr (by omega)
theorem st1 {q n : Nat} (hf : Fit q n) (h : QS .nx [none, none, a2, some (.int q), some (.int n), some (.list ((allw q n).map tw)), some (.list []), some (.int 0), a8, a9, a10, a11, a12, a13] s) : Runs d_law_0_1 [none, none, a2, some (.int q), some (.int n), a5, a6, a7, a8, a9, a10, a11, a12, a13] s QS := by
  have b := hf.b
  have h4 := hf.q4
  have h8 := hf.n8
  unfold d_law_0_1
  simp only [runs_seq, runs_set, runs_if, runs_ret, runs_skip, runs_drop, runs_par, runs_asg, runs_for, runs_upd, evb_b, evb_and, evb_or, evb_not, evb_true, ev_c, ev_var, ev_un, ev_bin, ev_app, ev_apS, ev_tup, ev_lst, ev_and, ev_or, ev_not, ev_if, ev_chain, ev_sl, ev_comp, eva_nil, eva_cons, eva_items, eva_range1, eva_range2, evo_none, evo_some, ok_some, ok_none, nxt_nx, nxt_ret, nxt_bk, nxt_ct, turnQ_nx, turnQ_ret, turnQ_bk, turnQ_ct, List.getElem?_cons_succ, List.getElem?_cons_zero, List.set_cons_succ, List.set_cons_zero, Option.some.injEq, exists_eq_left', exists_eq_left, setE, toB, toI, wipeE, bNm, itemsD, List.length_cons, List.length_nil]
  rw [show r__law_words [.int q, .int n] = some (.list ((allw q n).map tw)) from Rc.words_ok hf.q1 (by omega) (by omega) (by omega)]
  simp only [ok_some]
  exact ⟨by rw [sizeLine_eq]; omega, trivial, h⟩
theorem mem_len {q n : Nat} (hf : Fit q n) {w : List Int} (h : w ∈ allw q n) : w ≠ [] ∧ w.length ≤ 8 ∧ ∀ x ∈ w, small64 x = true := by
  obtain ⟨h1, h2⟩ := allw_mem q n w h
  have := hf.n1
  have := hf.n8
  have := hf.q4
  refine ⟨fun z => by rw [z] at h1; simp at h1; omega, by omega, fun x hx => ?_⟩
  rw [small64_iff]
  have := h2 x hx
  omega
theorem st2 {q n : Nat} (hf : Fit q n) (h : ∀ b8 b9 b10, QS .nx [none, none, a2, some (.int q), some (.int n), some (.list ((allw q n).map tw)), some (.list (((allw q n).filter dueF).map tw)), some (.int (((allw q n).filter sameF).length : Nat)), b8, b9, b10, a11, a12, a13] s) :
    Runs d_law_0_2 [none, none, a2, some (.int q), some (.int n), some (.list ((allw q n).map tw)), some (.list []), some (.int 0), a8, a9, a10, a11, a12, a13] s QS := by
  have hlen : (allw q n).length ≤ 400 := by rw [allw_len]; exact hf.b
  unfold d_law_0_2
  simp only [runs_for, eva_items, ev_var, List.getElem?_cons_succ, List.getElem?_cons_zero, Option.some.injEq, exists_eq_left', itemsD, ok_some]
  refine runs_forL (fun i e s' => s' = s ∧ ∃ b8 b9 b10, e = [none, none, a2, some (.int q), some (.int n), some (.list ((allw q n).map tw)), some (.list ((((allw q n).take i).filter dueF).map tw)), some (.int ((((allw q n).take i).filter sameF).length : Nat)), b8, b9, b10, a11, a12, a13]) (k := 0) ⟨rfl, a8, a9, a10, rfl⟩ ?_ ?_
  · rintro i d e s' hd ⟨rfl, b8, b9, b10, rfl⟩
    rw [List.getElem?_map] at hd
    obtain ⟨w, hw, rfl⟩ := Option.map_eq_some_iff.mp hd
    obtain ⟨w1, w2, w3⟩ := mem_len hf (List.mem_of_getElem? hw)
    have hil := (List.getElem?_eq_some_iff.mp hw).1
    rw [Nat.zero_add]
    simp only [bNm, ok_some, List.set_cons_succ, List.set_cons_zero]
    unfold d_law_0_2_0 d_law_0_2_1 d_law_0_2_2
    simp only [runs_seq, runs_set, runs_if, runs_ret, runs_skip, runs_drop, runs_par, runs_asg, runs_for, runs_upd, evb_b, evb_and, evb_or, evb_not, evb_true, ev_c, ev_var, ev_un, ev_bin, ev_app, ev_apS, ev_tup, ev_lst, ev_and, ev_or, ev_not, ev_if, ev_chain, ev_sl, ev_comp, eva_nil, eva_cons, eva_items, eva_range1, eva_range2, evo_none, evo_some, ok_some, ok_none, nxt_nx, nxt_ret, nxt_bk, nxt_ct, turnQ_nx, turnQ_ret, turnQ_bk, turnQ_ct, List.getElem?_cons_succ, List.getElem?_cons_zero, List.set_cons_succ, List.set_cons_zero, Option.some.injEq, exists_eq_left', exists_eq_left, setE, toB, toI, wipeE, bNm, itemsD, turnsR (show w.length ≤ 1000 by omega), rev_tw, turnsR (show w.reverse.length ≤ 1000 by rw [List.length_reverse]; omega)]
    rw [show dMin [.list ((tn w).map tw)] = some (tw (lst w)) from min_tn w1, show dMin [.list ((tn w.reverse).map tw)] = some (tw (lst w.reverse)) from min_tn (rev_ne w1)]
    simp only [ok_some, List.length_cons, List.length_nil, true_and, runs_seq, runs_set, runs_if, runs_ret, runs_skip, runs_drop, runs_par, runs_asg, runs_for, runs_upd, evb_b, evb_and, evb_or, evb_not, evb_true, ev_c, ev_var, ev_un, ev_bin, ev_app, ev_apS, ev_tup, ev_lst, ev_and, ev_or, ev_not, ev_if, ev_chain, ev_sl, ev_comp, eva_nil, eva_cons, eva_items, eva_range1, eva_range2, evo_none, evo_some, ok_some, ok_none, nxt_nx, nxt_ret, nxt_bk, nxt_ct, turnQ_nx, turnQ_ret, turnQ_bk, turnQ_ct, List.getElem?_cons_succ, List.getElem?_cons_zero, List.set_cons_succ, List.set_cons_zero, Option.some.injEq, exists_eq_left', exists_eq_left, setE, toB, toI, wipeE, bNm, itemsD, eq_tw, le_tw]
    have t1 : ∀ f : List Int → Bool, ((allw q n).take (i + 1)).filter f = ((allw q n).take i).filter f ++ (if f w = true then [w] else []) := fun f => by
      rw [List.take_add_one, hw, List.filter_append]
      show _ ++ List.filter f [w] = _
      rw [List.filter_cons]
      rfl
    have hfl : (((allw q n).take i).filter dueF).length ≤ 400 := Nat.le_trans (List.length_filter_le _ _) (Nat.le_trans ((by rw [List.length_take]; omega : ((allw q n).take i).length ≤ (allw q n).length)) hlen)
    have fin : ∀ (due : List PyData), due = (((allw q n).take (i + 1)).filter dueF).map tw → ∀ (k : Int), k = (if sameF w = true then 1 else 0) → (∃ b8 b9 b10, ([none, none, a2, some (.int q), some (.int n), some (.list ((allw q n).map tw)), some (.list due), some (.int ((((((allw q n).take i).filter sameF).length : Nat) : Int) + k)), some (tw w), some (tw (lst w)), some (tw (lst w.reverse)), a11, a12, a13] : DL.Env) = [none, none, a2, some (.int q), some (.int n), some (.list ((allw q n).map tw)), some (.list ((((allw q n).take (i + 1)).filter dueF).map tw)), some (.int ((((allw q n).take (i + 1)).filter sameF).length : Nat)), b8, b9, b10, a11, a12, a13]) := fun due e1 k e2 => by
      refine ⟨some (tw w), some (tw (lst w)), some (tw (lst w.reverse)), ?_⟩
      rw [e1, e2, t1 sameF, List.length_append]
      by_cases z : sameF w = true
      · rw [if_pos z, if_pos z]; simp
      · rw [if_neg z, if_neg z]; simp
    by_cases c1 : w = lst w
    · have c1' : decide (w = lst w) = true := decide_eq_true c1
      simp only [c1', if_true]
      by_cases c2 : ilt (lst w.reverse) (lst w) = true
      · have hd0 : dueF w = false := by unfold dueF; rw [c2]; simp
        simp only [c2, Bool.not_true, Bool.false_eq_true, if_false, nxt_nx, runs_seq, runs_set, runs_if, runs_ret, runs_skip, runs_drop, runs_par, runs_asg, runs_for, runs_upd, evb_b, evb_and, evb_or, evb_not, evb_true, ev_c, ev_var, ev_un, ev_bin, ev_app, ev_apS, ev_tup, ev_lst, ev_and, ev_or, ev_not, ev_if, ev_chain, ev_sl, ev_comp, eva_nil, eva_cons, eva_items, eva_range1, eva_range2, evo_none, evo_some, ok_some, ok_none, nxt_nx, nxt_ret, nxt_bk, nxt_ct, turnQ_nx, turnQ_ret, turnQ_bk, turnQ_ct, List.getElem?_cons_succ, List.getElem?_cons_zero, List.set_cons_succ, List.set_cons_zero, Option.some.injEq, exists_eq_left', exists_eq_left, setE, toB, toI, wipeE, bNm, itemsD]
        simp only [dInt, dAdd, ok_some, turnQ_nx, List.set_cons_succ, List.set_cons_zero]
        refine fin _ ?_ _ ?_
        · rw [t1 dueF, hd0]; simp
        · unfold sameF; rw [c1', Bool.true_and]
      · have hd1 : dueF w = true := by unfold dueF; rw [c1']; simpa using c2
        simp only [show ilt (lst w.reverse) (lst w) = false by simpa using c2, Bool.not_false, if_true, runs_seq, runs_set, runs_if, runs_ret, runs_skip, runs_drop, runs_par, runs_asg, runs_for, runs_upd, evb_b, evb_and, evb_or, evb_not, evb_true, ev_c, ev_var, ev_un, ev_bin, ev_app, ev_apS, ev_tup, ev_lst, ev_and, ev_or, ev_not, ev_if, ev_chain, ev_sl, ev_comp, eva_nil, eva_cons, eva_items, eva_range1, eva_range2, evo_none, evo_some, ok_some, ok_none, nxt_nx, nxt_ret, nxt_bk, nxt_ct, turnQ_nx, turnQ_ret, turnQ_bk, turnQ_ct, List.getElem?_cons_succ, List.getElem?_cons_zero, List.set_cons_succ, List.set_cons_zero, Option.some.injEq, exists_eq_left', exists_eq_left, setE, toB, toI, wipeE, bNm, itemsD, appD]
        rw [if_pos (by rw [List.length_map, sizeLine_eq]; omega)]
        simp only [ok_some, runs_seq, runs_set, runs_if, runs_ret, runs_skip, runs_drop, runs_par, runs_asg, runs_for, runs_upd, evb_b, evb_and, evb_or, evb_not, evb_true, ev_c, ev_var, ev_un, ev_bin, ev_app, ev_apS, ev_tup, ev_lst, ev_and, ev_or, ev_not, ev_if, ev_chain, ev_sl, ev_comp, eva_nil, eva_cons, eva_items, eva_range1, eva_range2, evo_none, evo_some, ok_some, ok_none, nxt_nx, nxt_ret, nxt_bk, nxt_ct, turnQ_nx, turnQ_ret, turnQ_bk, turnQ_ct, List.getElem?_cons_succ, List.getElem?_cons_zero, List.set_cons_succ, List.set_cons_zero, Option.some.injEq, exists_eq_left', exists_eq_left, setE, toB, toI, wipeE, bNm, itemsD]
        simp only [dInt, dAdd, ok_some, turnQ_nx, List.set_cons_succ, List.set_cons_zero]
        refine fin _ ?_ _ ?_
        · rw [t1 dueF, hd1]; simp
        · unfold sameF; rw [c1', Bool.true_and]
    · have c1' : decide (w = lst w) = false := decide_eq_false c1
      have hd0 : dueF w = false := by unfold dueF; rw [c1']; rfl
      have hs0 : sameF w = false := by unfold sameF; rw [c1']; rfl
      simp only [c1', Bool.false_eq_true, if_false, nxt_nx, runs_seq, runs_set, runs_if, runs_ret, runs_skip, runs_drop, runs_par, runs_asg, runs_for, runs_upd, evb_b, evb_and, evb_or, evb_not, evb_true, ev_c, ev_var, ev_un, ev_bin, ev_app, ev_apS, ev_tup, ev_lst, ev_and, ev_or, ev_not, ev_if, ev_chain, ev_sl, ev_comp, eva_nil, eva_cons, eva_items, eva_range1, eva_range2, evo_none, evo_some, ok_some, ok_none, nxt_nx, nxt_ret, nxt_bk, nxt_ct, turnQ_nx, turnQ_ret, turnQ_bk, turnQ_ct, List.getElem?_cons_succ, List.getElem?_cons_zero, List.set_cons_succ, List.set_cons_zero, Option.some.injEq, exists_eq_left', exists_eq_left, setE, toB, toI, wipeE, bNm, itemsD]
      simp only [dInt, dAdd, ok_some, turnQ_nx, List.set_cons_succ, List.set_cons_zero]
      refine fin _ ?_ _ ?_
      · rw [t1 dueF, hd0]; simp
      · rw [hs0] <;> rfl
  · rintro e s' ⟨rfl, b8, b9, b10, rfl⟩
    rw [Nat.zero_add, List.length_map, List.take_length]
    exact h b8 b9 b10

theorem rok_words {l : List (List Int)} (h : ∀ w ∈ l, w.length ≤ 8 ∧ ∀ x ∈ w, small64 x = true) (hl : l.length ≤ 400) : Rok 2000000 3 (.tuple (l.map tw)) := by
  refine ((rok_all (c := 4820) (k := 1) (n := 400) (ds := l.map tw) (fun d hd => ?_) (by rw [List.length_map]; exact hl)).2).mono (by omega) (by omega)
  obtain ⟨w, hw, rfl⟩ := List.mem_map.mp hd
  exact (rok_tw (h w hw).2 (n := 8) (h w hw).1).mono (by omega) (by omega)
theorem st3 {q n : Nat} (hf : Fit q n) (h : QS .nx [none, none, a2, some (.int q), some (.int n), a5, some (.list (((allw q n).filter dueF).map tw)), a7, a8, a9, a10, a11, a12, a13] s) :
    Runs d_law_0_3 [none, none, a2, some (.int q), some (.int n), a5, some (.list (((allw q n).filter dueF).map tw)), a7, a8, a9, a10, a11, a12, a13] s QS := by
  have hlen : (allw q n).length ≤ 400 := by rw [allw_len]; exact hf.b
  unfold d_law_0_3
  simp only [runs_seq, runs_set, runs_if, runs_ret, runs_skip, runs_drop, runs_par, runs_asg, runs_for, runs_upd, evb_b, evb_and, evb_or, evb_not, evb_true, ev_c, ev_var, ev_un, ev_bin, ev_app, ev_apS, ev_tup, ev_lst, ev_and, ev_or, ev_not, ev_if, ev_chain, ev_sl, ev_comp, eva_nil, eva_cons, eva_items, eva_range1, eva_range2, evo_none, evo_some, ok_some, ok_none, nxt_nx, nxt_ret, nxt_bk, nxt_ct, turnQ_nx, turnQ_ret, turnQ_bk, turnQ_ct, List.getElem?_cons_succ, List.getElem?_cons_zero, List.set_cons_succ, List.set_cons_zero, Option.some.injEq, exists_eq_left', exists_eq_left, setE, toB, toI, wipeE, bNm, itemsD, (chk_all hf.q1 hf.q4 hf.n1 hf.n8 hf.f).1, dTuple]
  have r := (rok_words (l := (allw q n).filter dueF) (fun w hw => (mem_len hf (List.mem_filter.mp hw).1).2) (Nat.le_trans (List.length_filter_le _ _) hlen)).repr (by omega) (by omega)
  rw [r]
  simp only [ok_some, neS, decide_true, Bool.not_true, Bool.false_eq_true, if_false]
  exact h
theorem st5 {q n : Nat} (hf : Fit q n) (h : ∀ b12, QS .nx [none, none, a2, some (.int q), some (.int n), a5, a6, a7, a8, a9, a10, some (.int ((q ^ ((n + 1) / 2) : Nat) : Int)), b12, a13] s) :
    Runs d_law_0_5 [none, none, a2, some (.int q), some (.int n), a5, a6, a7, a8, a9, a10, some (.int 1), a12, a13] s QS := by
  have h4 := hf.q4
  have h8 := hf.n8
  unfold d_law_0_5
  simp only [runs_for, eva_range1, ev_bin, ev_var, ev_c, List.getElem?_cons_succ, List.getElem?_cons_zero, Option.some.injEq, exists_eq_left', dAdd, ok_some, dDiv, ne_eq, show ¬ ((2 : Int) = 0) by decide, not_false_eq_true, show (2 : Int).natAbs < 1073741824 by decide, and_self, if_true]
  rw [show ((n : Int) + 1).fdiv 2 = (((n + 1) / 2 : Nat) : Int) by rw [show ((n : Int) + 1) = ((n + 1 : Nat) : Int) by omega, Int.fdiv_eq_ediv_of_nonneg _ (by omega)]; rfl, range1_nat (by omega), ok_some]
  refine runs_forL (fun i e s' => s' = s ∧ ∃ b12, e = [none, none, a2, some (.int q), some (.int n), a5, a6, a7, a8, a9, a10, some (.int ((q ^ i : Nat) : Int)), b12, a13]) (k := 0) ⟨rfl, a12, rfl⟩ ?_ ?_
  · rintro i d e s' hd ⟨rfl, b12, rfl⟩
    simp only [bNm, ok_some, List.set_cons_succ, List.set_cons_zero, runs_seq, runs_set, runs_if, runs_ret, runs_skip, runs_drop, runs_par, runs_asg, runs_for, runs_upd, evb_b, evb_and, evb_or, evb_not, evb_true, ev_c, ev_var, ev_un, ev_bin, ev_app, ev_apS, ev_tup, ev_lst, ev_and, ev_or, ev_not, ev_if, ev_chain, ev_sl, ev_comp, eva_nil, eva_cons, eva_items, eva_range1, eva_range2, evo_none, evo_some, ok_some, ok_none, nxt_nx, nxt_ret, nxt_bk, nxt_ct, turnQ_nx, turnQ_ret, turnQ_bk, turnQ_ct, List.getElem?_cons_succ, List.getElem?_cons_zero, List.set_cons_succ, List.set_cons_zero, Option.some.injEq, exists_eq_left', exists_eq_left, setE, toB, toI, wipeE, bNm, itemsD, dMul, show small64 (q : Int) = true from by rw [small64_iff]; omega, Bool.or_true, if_true]
    refine ⟨trivial, some d, ?_⟩
    rw [show 0 + i = i by omega, Nat.pow_succ, Int.natCast_mul]
  · rintro e s' ⟨rfl, b12, rfl⟩
    have : (rng 0 ((n + 1) / 2)).length = (n + 1) / 2 := by unfold rng; simp
    rw [Nat.zero_add, this]
    exact h b12
theorem st6 {q n : Nat} (hf : Fit q n) (h : QS .nx [none, none, a2, some (.int q), some (.int n), a5, a6, some (.int (((allw q n).filter sameF).length : Nat)), a8, a9, a10, some (.int ((q ^ ((n + 1) / 2) : Nat) : Int)), a12, a13] s) :
    Runs d_law_0_6 [none, none, a2, some (.int q), some (.int n), a5, a6, some (.int (((allw q n).filter sameF).length : Nat)), a8, a9, a10, some (.int ((q ^ ((n + 1) / 2) : Nat) : Int)), a12, a13] s QS := by
  have h4 := hf.q4
  have h8 := hf.n8
  have c := (chk_all hf.q1 hf.q4 hf.n1 hf.n8 hf.f).2
  unfold d_law_0_6
  simp only [runs_seq, runs_set, runs_if, runs_ret, runs_skip, runs_drop, runs_par, runs_asg, runs_for, runs_upd, evb_b, evb_and, evb_or, evb_not, evb_true, ev_c, ev_var, ev_un, ev_bin, ev_app, ev_apS, ev_tup, ev_lst, ev_and, ev_or, ev_not, ev_if, ev_chain, ev_sl, ev_comp, eva_nil, eva_cons, eva_items, eva_range1, eva_range2, evo_none, evo_some, ok_some, ok_none, nxt_nx, nxt_ret, nxt_bk, nxt_ct, turnQ_nx, turnQ_ret, turnQ_bk, turnQ_ct, List.getElem?_cons_succ, List.getElem?_cons_zero, List.set_cons_succ, List.set_cons_zero, Option.some.injEq, exists_eq_left', exists_eq_left, setE, toB, toI, wipeE, bNm, itemsD, dMul, dInt, dMod, show small64 (2 : Int) = true from by decide, Bool.true_or, if_true, ne_eq, show ¬ ((2 : Int) = 0) by decide, not_false_eq_true, dAdd]
  rw [show ((n : Int)).fmod 2 = ((n % 2 : Nat) : Int) from fmod_nat n 2, eqI]
  simp only [ok_some, show small64 ((q : Int) + 1) = true from by rw [small64_iff]; omega, Bool.true_or, if_true]
  have fin : ∀ k : Int, k = ((if n % 2 = 1 then 2 * q ^ ((n + 1) / 2) else (q + 1) * q ^ ((n + 1) / 2) : Nat) : Int) → Gets (dNe (.int (2 * (((allw q n).filter sameF).length : Int))) (.int k)) fun d => Gets (match d with | .bool b => some b | _ => none) fun b => if b = true then QS (.ret (.bool false)) [none, none, a2, some (.int q), some (.int n), a5, a6, some (.int (((allw q n).filter sameF).length : Nat)), a8, a9, a10, some (.int ((q ^ ((n + 1) / 2) : Nat) : Int)), a12, a13] s else QS .nx [none, none, a2, some (.int q), some (.int n), a5, a6, some (.int (((allw q n).filter sameF).length : Nat)), a8, a9, a10, some (.int ((q ^ ((n + 1) / 2) : Nat) : Int)), a12, a13] s := fun k e => by
    subst e
    rw [neI, ← c]
    simp only [ok_some, show (2 * (((allw q n).filter sameF).length : Int)) = ((2 * ((allw q n).filter sameF).length : Nat) : Int) by omega, decide_true, Bool.not_true, Bool.false_eq_true, if_false]
    exact h
  by_cases z : n % 2 = 1
  · simp only [z, show decide (((1 : Nat) : Int) = 1) = true by decide, if_true] at fin ⊢
    exact fin _ (by omega)
  · simp only [z, show decide (((n % 2 : Nat) : Int) = 1) = false from decide_eq_false (by omega), Bool.false_eq_true, if_false] at fin ⊢
    exact fin _ (by rw [Int.natCast_mul]; rfl)
/-! ## drawn words -/
structure Wok (w : List Int) : Prop where
  ne : w ≠ []
  len : w.length ≤ 14
  sm : ∀ x ∈ w, small64 x = true
theorem tn_wok {w t : List Int} (h : Wok w) (ht : t ∈ tn w) : Wok t := by
  obtain ⟨i, _, rfl⟩ := List.mem_map.mp ht
  refine ⟨fun z => h.ne (List.length_eq_zero_iff.mp (by rw [← rot_len (i := i), z]; rfl)), by rw [rot_len]; exact h.len, fun x hx => ?_⟩
  rcases List.mem_append.mp hx with hx | hx
  · exact h.sm x (List.mem_of_mem_drop hx)
  · exact h.sm x (List.mem_of_mem_take hx)
theorem rev_wok {w : List Int} (h : Wok w) : Wok w.reverse := ⟨rev_ne h.ne, by rw [List.length_reverse]; exact h.len, fun x hx => h.sm x (List.mem_reverse.mp hx)⟩
theorem lst_wok {w : List Int} (h : Wok w) : Wok (lst w) := tn_wok h (lst_mem h.ne)
theorem band_wok {w : List Int} (h : Wok w) : Wok (band w) := by
  unfold band; split
  · exact lst_wok (rev_wok h)
  · exact lst_wok h
theorem tt0 (h : ∀ q s', 1 ≤ q → q ≤ 5 → QS .nx [none, none, a2, some (.int q), a4, a5, a6, a7, a8, a9, a10, a11, a12, a13] s') : Runs d_law_1_0 [none, none, a2, a3, a4, a5, a6, a7, a8, a9, a10, a11, a12, a13] s QS := by
  unfold d_law_1_0
  rw [runs_set, ev_bin, ev_c]
  refine ev_pick1 (m := 5) rfl (ev_c.mpr rfl) (by decide) fun r s' h1 h2 => ?_
  simp only [dAdd, ok_some, List.set_cons_succ, List.set_cons_zero]
  exact h (1 + r) s' (by omega) (by rw [Int.max_def] at h2; split at h2 <;> omega)
theorem ints_of {ys : List PyData} {P : Int → Prop} (h : ∀ y ∈ ys, ∃ r : Int, y = .int r ∧ P r) : ∃ xs : List Int, ys = xs.map .int ∧ ∀ x ∈ xs, P x := by
  induction ys with
  | nil => exact ⟨[], rfl, fun _ h => (by cases h)⟩
  | cons y ys ih =>
    obtain ⟨r, rfl, hr⟩ := h y List.mem_cons_self
    obtain ⟨xs, rfl, hx⟩ := ih fun z hz => h z (List.mem_cons_of_mem _ hz)
    exact ⟨r :: xs, rfl, fun x hx' => by
      rcases List.mem_cons.mp hx' with rfl | hx'
      · exact hr
      · exact hx x hx'⟩
theorem tt1 {q : Int} (h1 : 1 ≤ q) (h5 : q ≤ 5) (h : ∀ w s', Wok w → QS .nx [none, none, a2, some (.int q), a4, a5, a6, a7, some (tw w), a9, a10, a11, a12, a13] s') :
    Runs d_law_1_1 [none, none, a2, some (.int q), a4, a5, a6, a7, a8, a9, a10, a11, a12, a13] s QS := by
  unfold d_law_1_1
  rw [runs_set, ev_app, eva_cons, ev_comp, eva_range1, ev_bin, ev_c]
  refine ev_pick1 (m := 14) rfl (ev_c.mpr rfl) (by decide) fun r s1 hr1 hr2 => ?_
  simp only [dAdd, ok_some]
  have hr3 : r < 14 := by rw [Int.max_def] at hr2; split at hr2 <;> omega
  obtain ⟨n, hn⟩ : ∃ n : Nat, 1 + r = n := ⟨(1 + r).toNat, by omega⟩
  rw [hn, range1_nat (by omega)]
  simp only [ok_some]
  obtain ⟨ys, s2, hc, hlen, hP⟩ := compL_any (vs := [12]) (bd := bNm 12) (t := dTrue) (f := dApS r__law_pick (dACons (dVar 3) dANil)) (e := [none, none, a2, some (.int q), a4, a5, a6, a7, a8, a9, a10, a11, a12, a13]) (fun d => ∃ r : Int, d = .int r ∧ small64 r = true) (ds := rng 0 n) (s := s1) fun d _ s => by
    refine ⟨_, rfl, s, rfl, ?_⟩
    refine ev_pick1 (m := q) rfl (by simp only [runs_seq, runs_set, runs_if, runs_ret, runs_skip, runs_drop, runs_par, runs_asg, runs_for, runs_upd, evb_b, evb_and, evb_or, evb_not, evb_true, ev_c, ev_var, ev_un, ev_bin, ev_app, ev_apS, ev_tup, ev_lst, ev_and, ev_or, ev_not, ev_if, ev_chain, ev_sl, ev_comp, eva_nil, eva_cons, eva_items, eva_range1, eva_range2, evo_none, evo_some, ok_some, ok_none, nxt_nx, nxt_ret, nxt_bk, nxt_ct, turnQ_nx, turnQ_ret, turnQ_bk, turnQ_ct, List.getElem?_cons_succ, List.getElem?_cons_zero, List.set_cons_succ, List.set_cons_zero, Option.some.injEq, exists_eq_left', exists_eq_left, setE, toB, toI, wipeE, bNm, itemsD]) (by omega) fun r s' a b => ⟨r, rfl, ?_⟩
    rw [small64_iff]
    rw [Int.max_def] at b; split at b <;> omega
  rw [hc]
  obtain ⟨xs, rfl, hx⟩ := ints_of hP
  rw [List.length_map] at hlen
  have hn2 : xs.length = n := by rw [hlen]; unfold rng; simp
  simp only [ok_some, List.length_map, eva_nil]
  refine ⟨by rw [sizeLine_eq]; omega, ?_⟩
  simp only [dTuple, ok_some, List.set_cons_succ, List.set_cons_zero]
  exact h xs s2 ⟨fun z => by rw [z] at hn2; simp at hn2; omega, by omega, hx⟩
theorem tt2 {w : List Int} (hw : Wok w) (h : ∀ w s', Wok w → QS .nx [none, none, a2, a3, a4, a5, a6, a7, some (tw w), a9, a10, a11, a12, a13] s') :
    Runs d_law_1_2 [none, none, a2, a3, a4, a5, a6, a7, some (tw w), a9, a10, a11, a12, a13] s QS := by
  unfold d_law_1_2
  rw [runs_if, evb_b, ev_bin]
  refine ev_pick1 (m := 3) rfl (ev_c.mpr rfl) (by decide) fun r s1 _ _ => ?_
  simp only [ev_c, eqI, ok_some, toB, decide_eq_true_eq]
  split
  · unfold d_law_1_2_0
    simp only [runs_seq, runs_set, runs_if, runs_ret, runs_skip, runs_drop, runs_par, runs_asg, runs_for, runs_upd, evb_b, evb_and, evb_or, evb_not, evb_true, ev_c, ev_var, ev_un, ev_bin, ev_app, ev_apS, ev_tup, ev_lst, ev_and, ev_or, ev_not, ev_if, ev_chain, ev_sl, ev_comp, eva_nil, eva_cons, eva_items, eva_range1, eva_range2, evo_none, evo_some, ok_some, ok_none, nxt_nx, nxt_ret, nxt_bk, nxt_ct, turnQ_nx, turnQ_ret, turnQ_bk, turnQ_ct, List.getElem?_cons_succ, List.getElem?_cons_zero, List.set_cons_succ, List.set_cons_zero, Option.some.injEq, exists_eq_left', exists_eq_left, setE, toB, toI, wipeE, bNm, itemsD]
    rw [show (6 : Int) = ((6 : Nat) : Int) from rfl, sl_take]
    simp only [ok_some, rev_tw]
    have hp := List.length_pos_iff.mpr hw.ne
    have hl : (w.take 6).length = min 6 w.length := List.length_take
    rw [add_tw (by rw [List.length_reverse, hl]; omega), ok_some]
    refine h _ s1 ⟨fun z => ?_, by rw [List.length_append, List.length_reverse, hl]; omega, fun x hx => ?_⟩
    · have := (List.append_eq_nil_iff.mp z).1
      rw [this] at hl; simp at hl; omega
    · rcases List.mem_append.mp hx with hx | hx
      · exact hw.sm x (List.mem_of_mem_take hx)
      · exact hw.sm x (List.mem_of_mem_take (List.mem_reverse.mp hx))
  · rw [runs_skip]
    exact h w s1 hw
theorem tt3 {w : List Int} (hw : Wok w) (h : QS .nx [none, none, a2, a3, a4, a5, a6, a7, some (tw w), some (tw (lst w)), some (tw (lst w.reverse)), a11, a12, a13] s) :
    Runs d_law_1_3 [none, none, a2, a3, a4, a5, a6, a7, some (tw w), a9, a10, a11, a12, a13] s QS := by
  have hl := hw.len
  unfold d_law_1_3
  simp only [runs_seq, runs_set, runs_if, runs_ret, runs_skip, runs_drop, runs_par, runs_asg, runs_for, runs_upd, evb_b, evb_and, evb_or, evb_not, evb_true, ev_c, ev_var, ev_un, ev_bin, ev_app, ev_apS, ev_tup, ev_lst, ev_and, ev_or, ev_not, ev_if, ev_chain, ev_sl, ev_comp, eva_nil, eva_cons, eva_items, eva_range1, eva_range2, evo_none, evo_some, ok_some, ok_none, nxt_nx, nxt_ret, nxt_bk, nxt_ct, turnQ_nx, turnQ_ret, turnQ_bk, turnQ_ct, List.getElem?_cons_succ, List.getElem?_cons_zero, List.set_cons_succ, List.set_cons_zero, Option.some.injEq, exists_eq_left', exists_eq_left, setE, toB, toI, wipeE, bNm, itemsD, turnsR (show w.length ≤ 1000 by omega), rev_tw, turnsR (show w.reverse.length ≤ 1000 by rw [List.length_reverse]; omega)]
  rw [show dMin [.list ((tn w).map tw)] = some (tw (lst w)) from min_tn hw.ne, show dMin [.list ((tn w.reverse).map tw)] = some (tw (lst w.reverse)) from min_tn (rev_ne hw.ne)]
  simp only [ok_some, List.length_cons, List.length_nil, true_and]
  exact h
theorem tt4 {w : List Int} (hw : Wok w) (h : QS .nx [none, none, a2, a3, a4, a5, a6, a7, some (tw w), some (tw (lst w)), some (tw (lst w.reverse)), a11, a12, a13] s) :
    Runs d_law_1_4 [none, none, a2, a3, a4, a5, a6, a7, some (tw w), some (tw (lst w)), some (tw (lst w.reverse)), a11, a12, a13] s QS := by
  have hl := hw.len
  unfold d_law_1_4
  simp only [runs_seq, runs_set, runs_if, runs_ret, runs_skip, runs_drop, runs_par, runs_asg, runs_for, runs_upd, evb_b, evb_and, evb_or, evb_not, evb_true, ev_c, ev_var, ev_un, ev_bin, ev_app, ev_apS, ev_tup, ev_lst, ev_and, ev_or, ev_not, ev_if, ev_chain, ev_sl, ev_comp, eva_nil, eva_cons, eva_items, eva_range1, eva_range2, evo_none, evo_some, ok_some, ok_none, nxt_nx, nxt_ret, nxt_bk, nxt_ct, turnQ_nx, turnQ_ret, turnQ_bk, turnQ_ct, List.getElem?_cons_succ, List.getElem?_cons_zero, List.set_cons_succ, List.set_cons_zero, Option.some.injEq, exists_eq_left', exists_eq_left, setE, toB, toI, wipeE, bNm, itemsD, band_ok hw.ne (show w.length ≤ 1000 by omega), same_ok hw.ne (show w.length ≤ 1000 by omega), min2_tw, eq_tw, List.length_cons, List.length_nil]
  have r : dRepr [PyData.list [tw (band w), .bool (decide (lst w = lst w.reverse))]] = some (.str (PyData.list [tw (band w), .bool (decide (lst w = lst w.reverse))]).shown) :=
    ((rok_all (c := 9000) (k := 1) (n := 2) (ds := [tw (band w), .bool (decide (lst w = lst w.reverse))]) (fun d hd => by
      rcases List.mem_cons.mp hd with rfl | hd
      · exact (rok_tw (band_wok hw).sm (n := 14) (band_wok hw).len).mono (by omega) (by omega)
      · rw [List.mem_singleton] at hd; subst hd; exact (rok_bool _).mono (by omega) (by omega)) (by simp)).1).repr (by omega) (by omega)
  refine ⟨by rw [sizeLine_eq]; omega, ?_⟩
  rw [r]
  simp only [ok_some]
  refine ⟨by rw [sizeLine_eq]; omega, ?_⟩
  rw [show (if ilt (lst w.reverse) (lst w) = true then lst w.reverse else lst w) = band w from rfl, r]
  simp only [ok_some, neS, decide_true, Bool.not_true, Bool.false_eq_true, if_false]
  exact h
theorem tt5 {w : List Int} (hw : Wok w) (h : QS .nx [none, none, a2, a3, a4, a5, a6, a7, some (tw w), a9, a10, a11, a12, a13] s) :
    Runs d_law_1_5 [none, none, a2, a3, a4, a5, a6, a7, some (tw w), a9, a10, a11, a12, a13] s QS := by
  have hl := hw.len
  unfold d_law_1_5
  simp only [runs_seq, runs_set, runs_if, runs_ret, runs_skip, runs_drop, runs_par, runs_asg, runs_for, runs_upd, evb_b, evb_and, evb_or, evb_not, evb_true, ev_c, ev_var, ev_un, ev_bin, ev_app, ev_apS, ev_tup, ev_lst, ev_and, ev_or, ev_not, ev_if, ev_chain, ev_sl, ev_comp, eva_nil, eva_cons, eva_items, eva_range1, eva_range2, evo_none, evo_some, ok_some, ok_none, nxt_nx, nxt_ret, nxt_bk, nxt_ct, turnQ_nx, turnQ_ret, turnQ_bk, turnQ_ct, List.getElem?_cons_succ, List.getElem?_cons_zero, List.set_cons_succ, List.set_cons_zero, Option.some.injEq, exists_eq_left', exists_eq_left, setE, toB, toI, wipeE, bNm, itemsD, rev_tw, band_ok hw.ne (show w.length ≤ 1000 by omega), band_ok (rev_ne hw.ne) (show w.reverse.length ≤ 1000 by rw [List.length_reverse]; omega), band_rev, ne_tw, decide_true, Bool.not_true, Bool.false_eq_true, if_false]
  exact h
theorem hden : ∀ s : Src, ∃ e s', d_law (List.replicate 14 none) s = some ((.ret (.bool true), e), s') := fun s => by
  have : Runs d_law (List.replicate 14 none) s fun fl _ _ => fl = .ret (.bool true) := by
    unfold d_law d_law_0
    rw [runs_seq, runs_for, eva_range1, ev_c]
    refine ⟨_, rfl, ?_⟩
    refine runs_forL (fun _ e _ => ∃ a2 a3 a4 a5 a6 a7 a8 a9 a10 a11 a12 a13, e = [none, none, a2, a3, a4, a5, a6, a7, a8, a9, a10, a11, a12, a13]) (k := 0) ⟨none, none, none, none, none, none, none, none, none, none, none, none, rfl⟩ ?_ ?_
    · rintro j d e s' hd ⟨a2, a3, a4, a5, a6, a7, a8, a9, a10, a11, a12, a13, rfl⟩
      unfold rng at hd
      rw [List.getElem?_map] at hd
      obtain ⟨j', hj, e2⟩ := Option.map_eq_some_iff.mp hd
      obtain ⟨hjl, rfl⟩ := List.getElem?_eq_some_iff.mp hj
      rw [List.length_range] at hjl
      rw [List.getElem_range, Int.zero_add] at e2
      subst e2
      simp only [bNm, ok_some, List.set_cons_succ, List.set_cons_zero]
      rw [runs_seq]; refine st0 (by simpa using hjl) fun q n s1 hf => ?_
      rw [nxt_nx, runs_seq]; refine st1 hf ?_
      rw [nxt_nx, runs_seq]; refine st2 hf fun b8 b9 b10 => ?_
      rw [nxt_nx, runs_seq]; refine st3 hf ?_
      rw [nxt_nx, runs_seq, runs_set, ev_c, nxt_nx]
      simp only [List.set_cons_succ, List.set_cons_zero]
      rw [runs_seq]; refine st5 hf fun b12 => ?_
      rw [nxt_nx]; refine st6 hf ?_
      exact ⟨_, _, _, _, _, _, _, _, _, _, _, _, rfl⟩
    · rintro e s1 ⟨a2, a3, a4, a5, a6, a7, a8, a9, a10, a11, a12, a13, rfl⟩
      rw [nxt_nx, runs_seq]
      unfold d_law_1
      rw [runs_for, eva_range1, ev_c]
      refine ⟨_, rfl, ?_⟩
      refine runs_forL (fun _ e _ => ∃ a2 a3 a4 a5 a6 a7 a8 a9 a10 a11 a12 a13, e = [none, none, a2, a3, a4, a5, a6, a7, a8, a9, a10, a11, a12, a13]) (k := 0) ⟨_, _, _, _, _, _, _, _, _, _, _, _, rfl⟩ ?_ ?_
      · rintro j d e s' hd ⟨a2, a3, a4, a5, a6, a7, a8, a9, a10, a11, a12, a13, rfl⟩
        simp only [bNm, ok_some, List.set_cons_succ, List.set_cons_zero]
        rw [runs_seq]; refine tt0 fun q s1 h1 h5 => ?_
        rw [nxt_nx, runs_seq]; refine tt1 h1 h5 fun w s2 hw => ?_
        rw [nxt_nx, runs_seq]; refine tt2 hw fun w s3 hw => ?_
        rw [nxt_nx, runs_seq]; refine tt3 hw ?_
        rw [nxt_nx, runs_seq]; refine tt4 hw ?_
        rw [nxt_nx]; refine tt5 hw ?_
        exact ⟨_, _, _, _, _, _, _, _, _, _, _, _, rfl⟩
      · rintro e s' _
        rw [nxt_nx]
        unfold d_law_2
        have l1 := band_ok (w := [0, 1, 0, 0, 1, 1]) (by decide) (by decide)
        rw [show band [0, 1, 0, 0, 1, 1] = [0, 0, 1, 0, 1, 1] by decide +kernel] at l1
        have t1 : tw [0, 1, 0, 0, 1, 1] = .tuple [.int 0, .int 1, .int 0, .int 0, .int 1, .int 1] := rfl
        have t2 : tw [0, 0, 1, 0, 1, 1] = .tuple [.int 0, .int 0, .int 1, .int 0, .int 1, .int 1] := rfl
        have q1 := eq_tw [0, 0, 1, 0, 1, 1] [0, 0, 1, 0, 1, 1]
        rw [t2] at q1 l1
        rw [t1] at l1
        simp only [runs_seq, runs_set, runs_if, runs_ret, runs_skip, runs_drop, runs_par, runs_asg, runs_for, runs_upd, evb_b, evb_and, evb_or, evb_not, evb_true, ev_c, ev_var, ev_un, ev_bin, ev_app, ev_apS, ev_tup, ev_lst, ev_and, ev_or, ev_not, ev_if, ev_chain, ev_sl, ev_comp, eva_nil, eva_cons, eva_items, eva_range1, eva_range2, evo_none, evo_some, ok_some, ok_none, nxt_nx, nxt_ret, nxt_bk, nxt_ct, turnQ_nx, turnQ_ret, turnQ_bk, turnQ_ct, List.getElem?_cons_succ, List.getElem?_cons_zero, List.set_cons_succ, List.set_cons_zero, Option.some.injEq, exists_eq_left', exists_eq_left, setE, toB, toI, wipeE, bNm, itemsD, List.length_cons, List.length_nil, l1, q1, decide_true]
        simp [sizeLine_eq]
  obtain ⟨fl, e, s', h, rfl⟩ := this
  exact ⟨e, s', h⟩
end W54

set_option Elab.async false
set_option linter.all false
set_option maxRecDepth 100000
set_option maxHeartbeats 0
namespace W54
open PySem PySem.Spec PyProof.Rows L2 DL
theorem all_mk {l : PySem.W.OpenLaw} {w : World} {K : PySem.W.Frag} {h : Heap} {mg : Str → Option Value} {fa : Addr} (X : K.In h) (G : h.Ns mainGlobals mg) (hfa : mg "law" = some (.ref fa))
    {f0 : Addr} {od0 an0 : Option Addr} {sl0 : Array (Option Value)} {oc0 kV0 dc0 pm0 cd0 ct0 : Value}
    (a0 : PySem.W.nsIn K mainGlobals "longest_prime" = some (some (.ref f0))) (l0 : K.lookup f0 = some ⟨oc0, od0, .func (PySem.W.fnOf "longest_prime" "longest_prime" (defArgs s_longest_prime) (defBody s_longest_prime) (defScope s_longest_prime) .none kV0 dc0 pm0 an0 cd0 ct0), sl0⟩) (c0 : PySem.W.codeIn K cd0 "longest_prime" = true) (k0 : PySem.W.keepIn K (.ref f0) = true)
    {f1 : Addr} {od1 an1 : Option Addr} {sl1 : Array (Option Value)} {oc1 kV1 dc1 pm1 cd1 ct1 : Value}
    (a1 : PySem.W.nsIn K mainGlobals "next_beginning" = some (some (.ref f1))) (l1 : K.lookup f1 = some ⟨oc1, od1, .func (PySem.W.fnOf "next_beginning" "next_beginning" (defArgs s_next_beginning) (defBody s_next_beginning) (defScope s_next_beginning) .none kV1 dc1 pm1 an1 cd1 ct1), sl1⟩) (c1 : PySem.W.codeIn K cd1 "next_beginning" = true) (k1 : PySem.W.keepIn K (.ref f1) = true)
    {f2 : Addr} {od2 an2 : Option Addr} {sl2 : Array (Option Value)} {oc2 kV2 dc2 pm2 cd2 ct2 : Value}
    (a2 : PySem.W.nsIn K mainGlobals "beginnings_of" = some (some (.ref f2))) (l2 : K.lookup f2 = some ⟨oc2, od2, .func (PySem.W.fnOf "beginnings_of" "beginnings_of" (defArgs s_beginnings_of) (defBody s_beginnings_of) (defScope s_beginnings_of) .none kV2 dc2 pm2 an2 cd2 ct2), sl2⟩) (c2 : PySem.W.codeIn K cd2 "beginnings_of" = true) (k2 : PySem.W.keepIn K (.ref f2) = true)
    {f3 : Addr} {od3 an3 : Option Addr} {sl3 : Array (Option Value)} {oc3 kV3 dc3 pm3 cd3 ct3 : Value}
    (a3 : PySem.W.nsIn K mainGlobals "is_least_beginning" = some (some (.ref f3))) (l3 : K.lookup f3 = some ⟨oc3, od3, .func (PySem.W.fnOf "is_least_beginning" "is_least_beginning" (defArgs s_is_least_beginning) (defBody s_is_least_beginning) (defScope s_is_least_beginning) .none kV3 dc3 pm3 an3 cd3 ct3), sl3⟩) (c3 : PySem.W.codeIn K cd3 "is_least_beginning" = true) (k3 : PySem.W.keepIn K (.ref f3) = true)
    {f4 : Addr} {od4 an4 : Option Addr} {sl4 : Array (Option Value)} {oc4 kV4 dc4 pm4 cd4 ct4 : Value}
    (a4 : PySem.W.nsIn K mainGlobals "least_words" = some (some (.ref f4))) (l4 : K.lookup f4 = some ⟨oc4, od4, .func (PySem.W.fnOf "least_words" "least_words" (defArgs s_least_words) (defBody s_least_words) (defScope s_least_words) .none kV4 dc4 pm4 an4 cd4 ct4), sl4⟩) (c4 : PySem.W.codeIn K cd4 "least_words" = true) (k4 : PySem.W.keepIn K (.ref f4) = true)
    {f5 : Addr} {od5 an5 : Option Addr} {sl5 : Array (Option Value)} {oc5 kV5 dc5 pm5 cd5 ct5 : Value}
    (a5 : PySem.W.nsIn K mainGlobals "turned_word" = some (some (.ref f5))) (l5 : K.lookup f5 = some ⟨oc5, od5, .func (PySem.W.fnOf "turned_word" "turned_word" (defArgs s_turned_word) (defBody s_turned_word) (defScope s_turned_word) .none kV5 dc5 pm5 an5 cd5 ct5), sl5⟩) (c5 : PySem.W.codeIn K cd5 "turned_word" = true) (k5 : PySem.W.keepIn K (.ref f5) = true)
    {f6 : Addr} {od6 an6 : Option Addr} {sl6 : Array (Option Value)} {oc6 kV6 dc6 pm6 cd6 ct6 : Value}
    (a6 : PySem.W.nsIn K mainGlobals "least_of_ring" = some (some (.ref f6))) (l6 : K.lookup f6 = some ⟨oc6, od6, .func (PySem.W.fnOf "least_of_ring" "least_of_ring" (defArgs s_least_of_ring) (defBody s_least_of_ring) (defScope s_least_of_ring) .none kV6 dc6 pm6 an6 cd6 ct6), sl6⟩) (c6 : PySem.W.codeIn K cd6 "least_of_ring" = true) (k6 : PySem.W.keepIn K (.ref f6) = true)
    {f7 : Addr} {od7 an7 : Option Addr} {sl7 : Array (Option Value)} {oc7 kV7 dc7 pm7 cd7 ct7 : Value}
    (a7 : PySem.W.nsIn K mainGlobals "least_of_band" = some (some (.ref f7))) (l7 : K.lookup f7 = some ⟨oc7, od7, .func (PySem.W.fnOf "least_of_band" "least_of_band" (defArgs s_least_of_band) (defBody s_least_of_band) (defScope s_least_of_band) .none kV7 dc7 pm7 an7 cd7 ct7), sl7⟩) (c7 : PySem.W.codeIn K cd7 "least_of_band" = true) (k7 : PySem.W.keepIn K (.ref f7) = true)
    {f8 : Addr} {od8 an8 : Option Addr} {sl8 : Array (Option Value)} {oc8 kV8 dc8 pm8 cd8 ct8 : Value}
    (a8 : PySem.W.nsIn K mainGlobals "is_same_over" = some (some (.ref f8))) (l8 : K.lookup f8 = some ⟨oc8, od8, .func (PySem.W.fnOf "is_same_over" "is_same_over" (defArgs s_is_same_over) (defBody s_is_same_over) (defScope s_is_same_over) .none kV8 dc8 pm8 an8 cd8 ct8), sl8⟩) (c8 : PySem.W.codeIn K cd8 "is_same_over" = true) (k8 : PySem.W.keepIn K (.ref f8) = true)
    {f9 : Addr} {od9 an9 : Option Addr} {sl9 : Array (Option Value)} {oc9 kV9 dc9 pm9 cd9 ct9 : Value}
    (a9 : PySem.W.nsIn K mainGlobals "least_bands" = some (some (.ref f9))) (l9 : K.lookup f9 = some ⟨oc9, od9, .func (PySem.W.fnOf "least_bands" "least_bands" (defArgs s_least_bands) (defBody s_least_bands) (defScope s_least_bands) .none kV9 dc9 pm9 an9 cd9 ct9), sl9⟩) (c9 : PySem.W.codeIn K cd9 "least_bands" = true) (k9 : PySem.W.keepIn K (.ref f9) = true)
    {f10 : Addr} {od10 an10 : Option Addr} {sl10 : Array (Option Value)} {oc10 kV10 dc10 pm10 cd10 ct10 : Value}
    (a10 : PySem.W.nsIn K mainGlobals "_law_source" = some (some (.ref f10))) (l10 : K.lookup f10 = some ⟨oc10, od10, .func (PySem.W.fnOf "_law_source" "_law_source" (defArgs s__law_source) (defBody s__law_source) (defScope s__law_source) .none kV10 dc10 pm10 an10 cd10 ct10), sl10⟩) (c10 : PySem.W.codeIn K cd10 "_law_source" = true) (k10 : PySem.W.keepIn K (.ref f10) = true)
    {f11 : Addr} {od11 an11 : Option Addr} {sl11 : Array (Option Value)} {oc11 kV11 dc11 pm11 cd11 ct11 : Value}
    (a11 : PySem.W.nsIn K mainGlobals "_law_pick" = some (some (.ref f11))) (l11 : K.lookup f11 = some ⟨oc11, od11, .func (PySem.W.fnOf "_law_pick" "_law_pick" (defArgs s__law_pick) (defBody s__law_pick) (defScope s__law_pick) .none kV11 dc11 pm11 an11 cd11 ct11), sl11⟩) (c11 : PySem.W.codeIn K cd11 "_law_pick" = true) (k11 : PySem.W.keepIn K (.ref f11) = true)
    {f12 : Addr} {od12 an12 : Option Addr} {sl12 : Array (Option Value)} {oc12 kV12 dc12 pm12 cd12 ct12 : Value}
    (a12 : PySem.W.nsIn K mainGlobals "_law_words" = some (some (.ref f12))) (l12 : K.lookup f12 = some ⟨oc12, od12, .func (PySem.W.fnOf "_law_words" "_law_words" (defArgs s__law_words) (defBody s__law_words) (defScope s__law_words) .none kV12 dc12 pm12 an12 cd12 ct12), sl12⟩) (c12 : PySem.W.codeIn K cd12 "_law_words" = true) (k12 : PySem.W.keepIn K (.ref f12) = true)
    {f13 : Addr} {od13 an13 : Option Addr} {sl13 : Array (Option Value)} {oc13 kV13 dc13 pm13 cd13 ct13 : Value}
    (a13 : PySem.W.nsIn K mainGlobals "_law_turns" = some (some (.ref f13))) (l13 : K.lookup f13 = some ⟨oc13, od13, .func (PySem.W.fnOf "_law_turns" "_law_turns" (defArgs s__law_turns) (defBody s__law_turns) (defScope s__law_turns) .none kV13 dc13 pm13 an13 cd13 ct13), sl13⟩) (c13 : PySem.W.codeIn K cd13 "_law_turns" = true) (k13 : PySem.W.keepIn K (.ref f13) = true)
    {f14 : Addr} {od14 an14 : Option Addr} {sl14 : Array (Option Value)} {oc14 kV14 dc14 pm14 cd14 ct14 : Value}
    (a14 : PySem.W.nsIn K mainGlobals "_law_size" = some (some (.ref f14))) (l14 : K.lookup f14 = some ⟨oc14, od14, .func (PySem.W.fnOf "_law_size" "_law_size" (defArgs s__law_size) (defBody s__law_size) (defScope s__law_size) .none kV14 dc14 pm14 an14 cd14 ct14), sl14⟩) (c14 : PySem.W.codeIn K cd14 "_law_size" = true) (k14 : PySem.W.keepIn K (.ref f14) = true)
    {f15 : Addr} {od15 an15 : Option Addr} {sl15 : Array (Option Value)} {oc15 kV15 dc15 pm15 cd15 ct15 : Value}
    (a15 : PySem.W.nsIn K mainGlobals "law" = some (some (.ref f15))) (l15 : K.lookup f15 = some ⟨oc15, od15, .func (PySem.W.fnOf "law" "law" (defArgs s_law) (defBody s_law) (defScope s_law) .none kV15 dc15 pm15 an15 cd15 ct15), sl15⟩) (c15 : PySem.W.codeIn K cd15 "law" = true) (k15 : PySem.W.keepIn K (.ref f15) = true)
    (z_len : PySem.W.nsIn K mainGlobals "len" = some none)
    (z_range : PySem.W.nsIn K mainGlobals "range" = some none)
    (z_min : PySem.W.nsIn K mainGlobals "min" = some none)
    (z_max : PySem.W.nsIn K mainGlobals "max" = some none)
    (z_abs : PySem.W.nsIn K mainGlobals "abs" = some none)
    (z_int : PySem.W.nsIn K mainGlobals "int" = some none)
    (z_tuple : PySem.W.nsIn K mainGlobals "tuple" = some none)
    (z_repr : PySem.W.nsIn K mainGlobals "repr" = some none)
    (z_enumerate : PySem.W.nsIn K mainGlobals "enumerate" = some none)
    : ∃ fd : FuncData, (∀ (s : Shared) (v : Value), BindsTo s fd ⟨[v], []⟩ [("script", v)]) ∧ ∀ base : Heap, K.In base → base.Ns mainGlobals mg → FnG l.prog w K mg base 5 fa fd ["script"] (spLaw K) := by
  have e := hfa.symm.trans (PySem.W.mg_of X G a15)
  cases e
  have b : Blt mg := ⟨PySem.W.mg_none_of X G z_len, PySem.W.mg_none_of X G z_range, PySem.W.mg_none_of X G z_min, PySem.W.mg_none_of X G z_max, PySem.W.mg_none_of X G z_abs, PySem.W.mg_none_of X G z_int, PySem.W.mg_none_of X G z_tuple, PySem.W.mg_none_of X G z_repr, PySem.W.mg_none_of X G z_enumerate⟩
  refine ⟨PySem.W.fnOf "law" "law" (defArgs s_law) (defBody s_law) (defScope s_law) .none kV15 dc15 pm15 an15 cd15 ct15, fun s v => .of_eq rfl, fun base _ _ => ?_⟩
  have F0 := fun_mk (st := s_longest_prime) l0 c0 k0
  have D_longest_prime : DefG l.prog w K mg base 1 "longest_prime" (spP K 1 r_longest_prime) := DefG.ofF F0 (g_longest_prime b F0) (PySem.W.mg_of X G a0) (fun _ _ _ _ _ _ us hl => match us, hl with | [_], _ => rfl)
  have F1 := fun_mk (st := s_next_beginning) l1 c1 k1
  have D_next_beginning : DefG l.prog w K mg base 1 "next_beginning" (spP K 2 r_next_beginning) := DefG.ofF F1 (g_next_beginning b F1) (PySem.W.mg_of X G a1) (fun _ _ _ _ _ _ us hl => match us, hl with | [_, _], _ => rfl)
  have F2 := fun_mk (st := s_beginnings_of) l2 c2 k2
  have D_beginnings_of : DefG l.prog w K mg base 2 "beginnings_of" (spP K 2 r_beginnings_of) := DefG.ofF F2 (g_beginnings_of b (D_next_beginning := D_next_beginning) F2) (PySem.W.mg_of X G a2) (fun _ _ _ _ _ _ us hl => match us, hl with | [_, _], _ => rfl)
  have F3 := fun_mk (st := s_is_least_beginning) l3 c3 k3
  have D_is_least_beginning : DefG l.prog w K mg base 2 "is_least_beginning" (spP K 1 r_is_least_beginning) := DefG.ofF F3 (g_is_least_beginning b (D_longest_prime := D_longest_prime) F3) (PySem.W.mg_of X G a3) (fun _ _ _ _ _ _ us hl => match us, hl with | [_], _ => rfl)
  have F4 := fun_mk (st := s_least_words) l4 c4 k4
  have D_least_words : DefG l.prog w K mg base 3 "least_words" (spP K 2 r_least_words) := DefG.ofF F4 (g_least_words b (D_beginnings_of := D_beginnings_of) (D_is_least_beginning := D_is_least_beginning) F4) (PySem.W.mg_of X G a4) (fun _ _ _ _ _ _ us hl => match us, hl with | [_, _], _ => rfl)
  have F5 := fun_mk (st := s_turned_word) l5 c5 k5
  have D_turned_word : DefG l.prog w K mg base 1 "turned_word" (spP K 2 r_turned_word) := DefG.ofF F5 (g_turned_word b F5) (PySem.W.mg_of X G a5) (fun _ _ _ _ _ _ us hl => match us, hl with | [_, _], _ => rfl)
  have F6 := fun_mk (st := s_least_of_ring) l6 c6 k6
  have D_least_of_ring : DefG l.prog w K mg base 2 "least_of_ring" (spP K 1 r_least_of_ring) := DefG.ofF F6 (g_least_of_ring b (D_turned_word := D_turned_word) F6) (PySem.W.mg_of X G a6) (fun _ _ _ _ _ _ us hl => match us, hl with | [_], _ => rfl)
  have F7 := fun_mk (st := s_least_of_band) l7 c7 k7
  have D_least_of_band : DefG l.prog w K mg base 3 "least_of_band" (spP K 1 r_least_of_band) := DefG.ofF F7 (g_least_of_band b (D_least_of_ring := D_least_of_ring) F7) (PySem.W.mg_of X G a7) (fun _ _ _ _ _ _ us hl => match us, hl with | [_], _ => rfl)
  have F8 := fun_mk (st := s_is_same_over) l8 c8 k8
  have D_is_same_over : DefG l.prog w K mg base 3 "is_same_over" (spP K 1 r_is_same_over) := DefG.ofF F8 (g_is_same_over b (D_least_of_ring := D_least_of_ring) F8) (PySem.W.mg_of X G a8) (fun _ _ _ _ _ _ us hl => match us, hl with | [_], _ => rfl)
  have F9 := fun_mk (st := s_least_bands) l9 c9 k9
  have D_least_bands : DefG l.prog w K mg base 4 "least_bands" (spP K 2 r_least_bands) := DefG.ofF F9 (g_least_bands b (D_least_words := D_least_words) (D_least_of_band := D_least_of_band) F9) (PySem.W.mg_of X G a9) (fun _ _ _ _ _ _ us hl => match us, hl with | [_, _], _ => rfl)
  have F10 := fun_mk (st := s__law_source) l10 c10 k10
  have D__law_source : DefG l.prog w K mg base 1 "_law_source" (spScr K) := DefG.ofF F10 (g__law_source b F10) (PySem.W.mg_of X G a10) (fun _ _ _ _ _ _ us hl => match us, hl with | [_], _ => rfl)
  have F11 := fun_mk (st := s__law_pick) l11 c11 k11
  have D__law_pick : DefG l.prog w K mg base 1 "_law_pick" (spS K 1 r__law_pick) := DefG.ofF F11 (g__law_pick b F11) (PySem.W.mg_of X G a11) (fun _ _ _ _ _ _ us hl => match us, hl with | [_, _], _ => rfl)
  have F12 := fun_mk (st := s__law_words) l12 c12 k12
  have D__law_words : DefG l.prog w K mg base 1 "_law_words" (spP K 2 r__law_words) := DefG.ofF F12 (g__law_words b F12) (PySem.W.mg_of X G a12) (fun _ _ _ _ _ _ us hl => match us, hl with | [_, _], _ => rfl)
  have F13 := fun_mk (st := s__law_turns) l13 c13 k13
  have D__law_turns : DefG l.prog w K mg base 1 "_law_turns" (spP K 1 r__law_turns) := DefG.ofF F13 (g__law_turns b F13) (PySem.W.mg_of X G a13) (fun _ _ _ _ _ _ us hl => match us, hl with | [_], _ => rfl)
  have F14 := fun_mk (st := s__law_size) l14 c14 k14
  have D__law_size : DefG l.prog w K mg base 2 "_law_size" (spS K 1 r__law_size) := DefG.ofF F14 (g__law_size b (D__law_pick := D__law_pick) F14) (PySem.W.mg_of X G a14) (fun _ _ _ _ _ _ us hl => match us, hl with | [_, _], _ => rfl)
  exact g_law b (D_least_of_band := D_least_of_band) (D_is_same_over := D_is_same_over) (D_least_bands := D_least_bands) (D__law_source := D__law_source) (D__law_pick := D__law_pick) (D__law_words := D__law_words) (D__law_turns := D__law_turns) (D__law_size := D__law_size) hden (fun_mk (st := s_law) l15 c15 k15)
end W54
open PySem PySem.W PyProof.Rows
set_option maxHeartbeats 0 in
theorem PySem.Challenge.cw_allbysteps_k54_whole_bands_holds : PySem.Challenge.rw_allbysteps_k54_whole_bands.Holds := by
  w_on; o_law; k_head; (case hw => w_witness2)
  k_fill
  refine DL.walk_ofG (l := PySem.Challenge.rw_allbysteps_k54_whole_bands) (k := 5) (x := "script") rfl rfl ⟨rfl, by decide, by decide⟩ (fun w h Y => PySem.W.kIn_of Y) ?F
  case F =>
    intro w mg fa h KX G hmg
    refine' W54.all_mk KX G hmg ?a0 ?l0 ?c0 ?k0 ?a1 ?l1 ?c1 ?k1 ?a2 ?l2 ?c2 ?k2 ?a3 ?l3 ?c3 ?k3 ?a4 ?l4 ?c4 ?k4 ?a5 ?l5 ?c5 ?k5 ?a6 ?l6 ?c6 ?k6 ?a7 ?l7 ?c7 ?k7 ?a8 ?l8 ?c8 ?k8 ?a9 ?l9 ?c9 ?k9 ?a10 ?l10 ?c10 ?k10 ?a11 ?l11 ?c11 ?k11 ?a12 ?l12 ?c12 ?k12 ?a13 ?l13 ?c13 ?k13 ?a14 ?l14 ?c14 ?k14 ?a15 ?l15 ?c15 ?k15 ?z_len ?z_range ?z_min ?z_max ?z_abs ?z_int ?z_tuple ?z_repr ?z_enumerate
    (case a0 => k_is); (case l0 => k_is); (case c0 => k_is); (case k0 => k_is); (case a1 => k_is); (case l1 => k_is); (case c1 => k_is); (case k1 => k_is); (case a2 => k_is); (case l2 => k_is); (case c2 => k_is); (case k2 => k_is); (case a3 => k_is); (case l3 => k_is); (case c3 => k_is); (case k3 => k_is); (case a4 => k_is); (case l4 => k_is); (case c4 => k_is); (case k4 => k_is); (case a5 => k_is); (case l5 => k_is); (case c5 => k_is); (case k5 => k_is); (case a6 => k_is); (case l6 => k_is); (case c6 => k_is); (case k6 => k_is); (case a7 => k_is); (case l7 => k_is); (case c7 => k_is); (case k7 => k_is); (case a8 => k_is); (case l8 => k_is); (case c8 => k_is); (case k8 => k_is); (case a9 => k_is); (case l9 => k_is); (case c9 => k_is); (case k9 => k_is); (case a10 => k_is); (case l10 => k_is); (case c10 => k_is); (case k10 => k_is); (case a11 => k_is); (case l11 => k_is); (case c11 => k_is); (case k11 => k_is); (case a12 => k_is); (case l12 => k_is); (case c12 => k_is); (case k12 => k_is); (case a13 => k_is); (case l13 => k_is); (case c13 => k_is); (case k13 => k_is); (case a14 => k_is); (case l14 => k_is); (case c14 => k_is); (case k14 => k_is); (case a15 => k_is); (case l15 => k_is); (case c15 => k_is); (case k15 => k_is); (case z_len => k_is); (case z_range => k_is); (case z_min => k_is); (case z_max => k_is); (case z_abs => k_is); (case z_int => k_is); (case z_tuple => k_is); (case z_repr => k_is); (case z_enumerate => k_is)

