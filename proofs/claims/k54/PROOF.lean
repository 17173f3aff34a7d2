import PyProof.Rows.All
import Wide.All
import OpenK.AllK
import Wide.FinOn
import HandS.ForMost
import HandS.Walk
import HandS.Flow
import HandS.Wide
import HandS.WideMore
import HandS.Gcd
import HandS.Star
import HandS.Style
import HandS.Deep
import HandS.TupAny
import HandS.TupMul
import HandS.RaiseMore
import KE.SortData
import HandS.SortInts
import HandS.Zip
import HandS.More
import HandS.DictComp
import HandS.Finally
import HandS.TupSets
import HandS.SetFor
import KE.KDictSum
import HandS.DictTup
import HandS.Strs
import HandS.EndBits
import PyProof.ReprRoads
import PyProof.CallFns
import PyProof.ReprLen
import PyProof.FitsInt
import PySem.Challenge.RW_triedwares_k54_whole_chains_of_sizes
set_option Elab.async false
set_option linter.all false
set_option maxRecDepth 100000
/-! The D layer, 1: pure data over the abstract heap. -/
namespace DL
open PySem PySem.Spec PyProof.Rows L2
abbrev St := L2.St
abbrev K2 := L2.Key

/-! the data that a value stands for, seen in the clean part G of the heap -/
mutual
inductive Dq (K : PySem.W.Frag) (G : Hp) : V → PyData → Prop
  | non : Dq K G .non .none
  | bl (b : Bool) : Dq K G (.bl b) (.bool b)
  | int (i : Int) : Dq K G (.int i) (.int i)
  | str (x : Str) : Dq K G (.str x) (.str x)
  | lst {a : Addr} {xs : List V} {ds : List PyData} : G a = some (.lst xs) → DqAll K G xs ds → Dq K G (.ref a) (.list ds)
  | tup {a : Addr} {xs : List V} {ds : List PyData} : SqT K G a xs → DqAll K G xs ds → Dq K G (.ref a) (.tuple ds)
  | dic {a : Addr} {o : Obj} {ks : List (K2 × V)} {ds : List (PyData × PyData)} : G a = some (.frz o (.dK ks)) → DqKv K G ks ds → Dq K G (.ref a) (.dict ds)
inductive DqAll (K : PySem.W.Frag) (G : Hp) : List V → List PyData → Prop
  | nil : DqAll K G [] []
  | cons {v : V} {vs : List V} {d : PyData} {ds : List PyData} : Dq K G v d → DqAll K G vs ds → DqAll K G (v :: vs) (d :: ds)
inductive DqKv (K : PySem.W.Frag) (G : Hp) : List (K2 × V) → List (PyData × PyData) → Prop
  | nil : DqKv K G [] []
  | int {i : Int} {v : V} {ks : List (K2 × V)} {d : PyData} {ds : List (PyData × PyData)} : Dq K G v d → DqKv K G ks ds → DqKv K G ((.inl i, v) :: ks) ((.int i, d) :: ds)
  | str {x : Str} {v : V} {ks : List (K2 × V)} {d : PyData} {ds : List (PyData × PyData)} : Dq K G v d → DqKv K G ks ds → DqKv K G ((.inr x, v) :: ks) ((.str x, d) :: ds)
end

theorem sqL_same {K : PySem.W.Frag} {G G' : Hp} {a : Addr} {xs : List V} (s : Same G G') (h : SqL K G a xs) : SqL K G' a xs := s.seq h
theorem sqT_same {K : PySem.W.Frag} {G G' : Hp} {a : Addr} {xs : List V} (s : Same G G') (h : SqT K G a xs) : SqT K G' a xs := by
  rcases h with (h | ⟨o, h⟩) | h
  · exact .inl (.inl (s _ _ h))
  · exact .inl (.inr ⟨o, s _ _ h⟩)
  · exact .inr h
section
variable {K : PySem.W.Frag} {G G' : Hp}
mutual
theorem Dq.mono (s : Same G G') : ∀ {v : V} {d : PyData}, Dq K G v d → Dq K G' v d
  | _, _, .non => .non
  | _, _, .bl b => .bl b
  | _, _, .int i => .int i
  | _, _, .str x => .str x
  | _, _, .lst h a => .lst (s _ _ h) (DqAll.mono s a)
  | _, _, .tup h a => .tup (sqT_same s h) (DqAll.mono s a)
  | _, _, .dic h a => .dic (s _ _ h) (DqKv.mono s a)
theorem DqAll.mono (s : Same G G') : ∀ {vs : List V} {ds : List PyData}, DqAll K G vs ds → DqAll K G' vs ds
  | _, _, .nil => .nil
  | _, _, .cons h t => .cons (Dq.mono s h) (DqAll.mono s t)
theorem DqKv.mono (s : Same G G') : ∀ {vs : List (K2 × V)} {ds : List (PyData × PyData)}, DqKv K G vs ds → DqKv K G' vs ds
  | _, _, .nil => .nil
  | _, _, .int h t => .int (Dq.mono s h) (DqKv.mono s t)
  | _, _, .str h t => .str (Dq.mono s h) (DqKv.mono s t)
end
theorem DqAll.len : ∀ {vs : List V} {ds : List PyData}, DqAll K G vs ds → vs.length = ds.length
  | _, _, .nil => rfl
  | _, _, .cons _ t => by simp [DqAll.len t]
theorem DqAll.app : ∀ {vs ws : List V} {ds es : List PyData}, DqAll K G vs ds → DqAll K G ws es → DqAll K G (vs ++ ws) (ds ++ es)
  | _, _, _, _, .nil, s => s
  | _, _, _, _, .cons h t, s => .cons h (DqAll.app t s)
theorem DqAll.get : ∀ {vs : List V} {ds : List PyData} {i : Nat} {d : PyData}, DqAll K G vs ds → ds[i]? = some d → ∃ v, vs[i]? = some v ∧ Dq K G v d
  | _, _, _, _, .nil, e => by simp at e
  | _, _, 0, _, .cons h _, e => by simp at e; subst e; exact ⟨_, rfl, h⟩
  | _, _, i + 1, d, .cons _ t, e => by
    obtain ⟨v, h1, h2⟩ := DqAll.get (i := i) (d := d) t (by simpa using e)
    exact ⟨v, by simpa using h1, h2⟩
theorem DqAll.get' : ∀ {vs : List V} {ds : List PyData} {i : Nat} {v : V}, DqAll K G vs ds → vs[i]? = some v → ∃ d, ds[i]? = some d ∧ Dq K G v d
  | _, _, _, _, .nil, e => by simp at e
  | _, _, 0, _, .cons h _, e => by simp at e; subst e; exact ⟨_, rfl, h⟩
  | _, _, i + 1, d, .cons _ t, e => by
    obtain ⟨v, h1, h2⟩ := DqAll.get' (i := i) (v := d) t (by simpa using e)
    exact ⟨v, by simpa using h1, h2⟩
theorem DqAll.take : ∀ {vs : List V} {ds : List PyData} (n : Nat), DqAll K G vs ds → DqAll K G (vs.take n) (ds.take n)
  | _, _, 0, _ => .nil
  | _, _, _ + 1, .nil => .nil
  | _, _, n + 1, .cons h t => .cons h (DqAll.take n t)
theorem DqAll.drop : ∀ {vs : List V} {ds : List PyData} (n : Nat), DqAll K G vs ds → DqAll K G (vs.drop n) (ds.drop n)
  | _, _, 0, r => r
  | _, _, _ + 1, .nil => .nil
  | _, _, n + 1, .cons _ t => DqAll.drop n t
theorem DqAll.set {v : V} {d : PyData} (r : Dq K G v d) : ∀ {vs : List V} {ds : List PyData} (i : Nat), DqAll K G vs ds → DqAll K G (vs.set i v) (ds.set i d)
  | _, _, _, .nil => .nil
  | _, _, 0, .cons _ t => .cons r t
  | _, _, i + 1, .cons q t => .cons q (DqAll.set r i t)

/-! data without dicts is what the layer's deep comparison reads -/
mutual
def flatD : PyData → Bool
  | .dict _ => false
  | .list xs => flatAll xs
  | .tuple xs => flatAll xs
  | _ => true
def flatAll : List PyData → Bool
  | [] => true
  | x :: xs => flatD x && flatAll xs
end
mutual
theorem Dq.dp : ∀ (d : PyData) (v : V), Dq K G v d → flatD d = true → Dp K G v d
  | .none, _, h, _ => by cases h; exact .non
  | .bool b, _, h, _ => by cases h; exact .bl b
  | .int i, _, h, _ => by cases h; exact .int i
  | .str x, _, h, _ => by cases h; exact .str x
  | .list ds, _, h, f => by
    rw [flatD] at f
    cases h with
    | lst h a => exact .lst (.of h) (DqAll.dp ds _ a f)
  | .tuple ds, _, h, f => by
    rw [flatD] at f
    cases h with
    | tup h a => exact .tup h (DqAll.dp ds _ a f)
  | .dict _, _, _, f => by rw [flatD] at f; cases f
theorem DqAll.dp : ∀ (ds : List PyData) (vs : List V), DqAll K G vs ds → flatAll ds = true → DpAll K G vs ds
  | [], _, h, _ => by cases h; exact .nil
  | d :: ds, _, h, f => by
    rw [flatAll, Bool.and_eq_true] at f
    cases h with
    | cons h t => exact .cons (Dq.dp d _ h f.1) (DqAll.dp ds _ t f.2)
end
end

/-! ### slots -/
/-- what a slot of a frame holds: clean data; an own list, an own dict, that nothing else holds; the script; an own thing that is walked just now -/
inductive Sl where
  | p (d : PyData) | l (ds : List PyData) | k (kvs : List (PyData × PyData)) | s (ns : List Int) | q (a : Addr)
abbrev En := List (Option Sl)
/-- the heap has grown: H' beside H, its clean part G' beside G; what was hidden stays hidden -/
structure Ext (G H G' H' : Hp) : Prop where
  gg : Same G G'
  hh : Same H H'
  gh : Same G' H'
  hid : ∀ b, H b ≠ none → G b = none → G' b = none
theorem Ext.refl {G H : Hp} (s : Same G H) : Ext G H G H := ⟨.refl _, .refl _, s, fun _ _ h => h⟩
theorem some_ne {H H' : Hp} (s : Same H H') {b : Addr} (h : H b ≠ none) : H' b ≠ none := by
  cases e : H b with
  | none => exact absurd e h
  | some o => rw [s _ _ e]; exact fun z => nomatch z
theorem Ext.trans {G H G1 H1 G2 H2 : Hp} (a : Ext G H G1 H1) (b : Ext G1 H1 G2 H2) : Ext G H G2 H2 :=
  ⟨a.gg.trans b.gg, a.hh.trans b.hh, b.gh, fun c h1 h2 => b.hid c (some_ne a.hh h1) (a.hid c h1 h2)⟩
theorem same_upd {H : Hp} {p : Addr} {o : HO} (hp : H p = none) : Same H (upd H p o) := fun b u e => by
  rw [upd_ne (ne_of_none e hp)]; exact e
theorem same_upd2 {G H : Hp} {p : Addr} {o : HO} (s : Same G H) : Same (upd G p o) (upd H p o) := fun b u e => by
  by_cases hb : b = p
  · subst hb; rw [upd_same] at e ⊢; exact e
  · rw [upd_ne hb] at e ⊢; exact s _ _ e
/-- a new clean object -/
theorem Ext.new {G H : Hp} {p : Addr} {o : HO} (s : Same G H) (hp : H p = none) : Ext G H (upd G p o) (upd H p o) :=
  ⟨same_upd (s.free hp), same_upd hp, same_upd2 s, fun b h1 h2 => by rw [upd_ne (fun z => h1 (by rw [z]; exact hp))]; exact h2⟩
/-- a new object that stays hidden -/
theorem Ext.hidden {G H : Hp} {p : Addr} {o : HO} (s : Same G H) (hp : H p = none) : Ext G H G (upd H p o) :=
  ⟨.refl _, same_upd hp, s.trans (same_upd hp), fun _ _ h => h⟩

/-- what a value is, by what its slot says: clean data in G; a hidden object of H -/
inductive SlR (K : PySem.W.Frag) (G H : Hp) : V → Sl → Prop
  | p {v : V} {d : PyData} : Dq K G v d → SlR K G H v (.p d)
  | l {a : Addr} {xs : List V} {ds : List PyData} : G a = none → H a = some (.lst xs) → DqAll K G xs ds → SlR K G H (.ref a) (.l ds)
  | k {a : Addr} {ks : List (K2 × V)} {ds : List (PyData × PyData)} : G a = none → H a = some (.dK ks) → DqKv K G ks ds → SlR K G H (.ref a) (.k ds)
  | s {a : Addr} {ns : List Int} : SqL K G a (ns.map V.int) → SlR K G H (.ref a) (.s ns)
  | q (a : Addr) : SlR K G H (.ref a) (.q a)
def Sl.own : Sl → Bool
  | .p _ => false
  | .s _ => false
  | .q _ => false
  | _ => true
/-- the slots of a frame -/
structure Rx (K : PySem.W.Frag) (G H : Hp) (σ : St) (ρ : En) : Prop where
  sub : Same G H
  len : σ.length = ρ.length
  at_ : ∀ (i : Nat) (s : Sl), ρ[i]? = some (some s) → ∃ v, σ[i]? = some (some v) ∧ SlR K G H v s
  apart : ∀ (i j : Nat) (s t : Sl) (a : Addr), ρ[i]? = some (some s) → ρ[j]? = some (some t) → s.own = true → t.own = true → σ[i]? = some (some (.ref a)) → σ[j]? = some (some (.ref a)) → i = j
theorem SlR.ext {K : PySem.W.Frag} {G H G' H' : Hp} {v : V} {s : Sl} (e : Ext G H G' H') (h : SlR K G H v s) : SlR K G' H' v s := by
  cases h with
  | p h => exact .p (h.mono e.gg)
  | l h1 h2 h3 => exact .l (e.hid _ (by rw [h2]; exact fun z => nomatch z) h1) (e.hh _ _ h2) (h3.mono e.gg)
  | k h1 h2 h3 => exact .k (e.hid _ (by rw [h2]; exact fun z => nomatch z) h1) (e.hh _ _ h2) (h3.mono e.gg)
  | s h => exact .s (sqL_same e.gg h)
  | q a => exact .q a
theorem Rx.ext {K : PySem.W.Frag} {G H G' H' : Hp} {σ : St} {ρ : En} (R : Rx K G H σ ρ) (e : Ext G H G' H') : Rx K G' H' σ ρ :=
  ⟨e.gh, R.len, fun i s h => let ⟨v, h1, h2⟩ := R.at_ i s h; ⟨v, h1, h2.ext e⟩, R.apart⟩

/-! ### readings of expressions -/
/-- clean data -/
def tD (K : PySem.W.Frag) (f : En → Option PyData) : TE := fun σ H Q => ∃ G ρ d, Rx K G H σ ρ ∧ f ρ = some d ∧ ∀ v G' H', Ext G H G' H' → Dq K G' v d → Q v H'
/-- data whose top may be a hidden object -/
inductive Dt (K : PySem.W.Frag) (G H : Hp) : V → PyData → Prop
  | p {v : V} {d : PyData} : Dq K G v d → Dt K G H v d
  | l {a : Addr} {xs : List V} {ds : List PyData} : H a = some (.lst xs) → DqAll K G xs ds → Dt K G H (.ref a) (.list ds)
  | k {a : Addr} {ks : List (K2 × V)} {ds : List (PyData × PyData)} : H a = some (.dK ks) → DqKv K G ks ds → Dt K G H (.ref a) (.dict ds)
def tT (K : PySem.W.Frag) (f : En → Option PyData) : TE := fun σ H Q => ∃ G ρ d, Rx K G H σ ρ ∧ f ρ = some d ∧ ∀ v G' H', Ext G H G' H' → Dt K G' H' v d → Q v H'
/-- a new own object, or clean data -/
def tF (K : PySem.W.Frag) (f : En → Option Sl) : TE := fun σ H Q => ∃ G ρ s, Rx K G H σ ρ ∧ f ρ = some s ∧ ∀ v G' H', Ext G H G' H' → SlR K G' H' v s → (s.own = true → ∀ a, v = .ref a → H a = none) → Q v H'
/-- a test -/
def tB (K : PySem.W.Frag) (f : En → Option Bool) : TT := fun σ H Q => ∃ G ρ b, Rx K G H σ ρ ∧ f ρ = some b ∧ ∀ G' H', Ext G H G' H' → Q b H'
/-- arguments -/
def tA (K : PySem.W.Frag) (f : En → Option (List PyData)) : TA := fun σ H Q => ∃ G ρ ds, Rx K G H σ ρ ∧ f ρ = some ds ∧ ∀ vs G' H', Ext G H G' H' → DqAll K G' vs ds → Q vs H'

section
variable {X : Cx} {e : Expr} {es : List Expr}
theorem pe_con {t t' : TE} (h : PE X e t) (i : ∀ σ H Q, t' σ H Q → t σ H Q) : PE X e t' := ⟨fun pins s σ H Q I q => h.run pins s σ H Q I (i _ _ _ q)⟩
theorem pt_con {t t' : TT} (h : PT X e t) (i : ∀ σ H Q, t' σ H Q → t σ H Q) : PT X e t' := ⟨fun pins s σ H Q I q => h.run pins s σ H Q I (i _ _ _ q)⟩
theorem pa_con {t t' : TA} (h : PA X es t) (i : ∀ σ H Q, t' σ H Q → t σ H Q) : PA X es t' := ⟨fun pos pins s σ H Q I q => h.run pos pins s σ H Q I (i _ _ _ q)⟩
abbrev PD (X : Cx) (e : Expr) (f : En → Option PyData) : Prop := PE X e (tD X.K f)
abbrev PTp (X : Cx) (e : Expr) (f : En → Option PyData) : Prop := PE X e (tT X.K f)
abbrev PF (X : Cx) (e : Expr) (f : En → Option Sl) : Prop := PE X e (tF X.K f)
abbrev PB (X : Cx) (e : Expr) (f : En → Option Bool) : Prop := PT X e (tB X.K f)
abbrev PAr (X : Cx) (es : List Expr) (f : En → Option (List PyData)) : Prop := PA X es (tA X.K f)
/-- clean data may be read at the top -/
theorem PD.top {f} (h : PD X e f) : PTp X e f := pe_con h fun σ H Q ⟨G, ρ, d, R, e, q⟩ => ⟨G, ρ, d, R, e, fun v G' H' x r => q v G' H' x (.p r)⟩
def Sl.d : Sl → Option PyData
  | .p d => some d
  | .l ds => some (.list ds)
  | .k kvs => some (.dict kvs)
  | .s _ => none
  | .q _ => none
theorem SlR.dt {K : PySem.W.Frag} {G H : Hp} {v : V} {s : Sl} {d : PyData} (h : SlR K G H v s) (e : s.d = some d) : Dt K G H v d := by
  cases h with
  | p h => cases e; exact .p h
  | l _ h2 h3 => cases e; exact .l h2 h3
  | k _ h2 h3 => cases e; exact .k h2 h3
  | s h => cases e
  | q a => cases e
/-- a new object as data -/
def frz (f : En → Option Sl) : En → Option PyData := fun ρ => (f ρ).bind Sl.d
theorem PF.top {f} (h : PF X e f) : PTp X e (frz f) := pe_con h fun σ H Q ⟨G, ρ, d, R, e, q⟩ => by
  obtain ⟨s, e2, e3⟩ := Option.bind_eq_some_iff.mp e
  exact ⟨G, ρ, s, R, e2, fun v G' H' x r _ => q v G' H' x (r.dt e3)⟩
/-- freeze what an expression gives -/
theorem PF.cl {f} (h : PF X e f) : PD X e (frz f) := by
  refine ⟨fun pins s σ H Q I hw => ?_⟩
  obtain ⟨G, ρ, d, R, e, q⟩ := hw
  obtain ⟨sl, e2, e3⟩ := Option.bind_eq_some_iff.mp e
  refine thn (h.run pins s σ H (fun v H' => ∃ G', Ext G H G' H' ∧ SlR X.K G' H' v sl ∧ (sl.own = true → ∀ a, v = .ref a → H a = none)) I ⟨G, ρ, sl, R, e2, fun v G' H' x r n => ⟨G', x, r, n⟩⟩) fun u s1 ⟨v, H1, I1, rv, G1, x1, r1, n1⟩ => ?_
  cases r1 with
  | s h => cases e3
  | q a => cases e3
  | p h => cases e3; exact ⟨v, H1, I1, rv, q _ _ _ x1 h⟩
  | @l a xs ds h1 h2 h3 =>
    cases e3
    have na : H a = none := n1 rfl a rfl
    refine ⟨_, H1, I1, rv, q _ (upd G1 a (.lst xs)) _ ⟨x1.gg.trans (same_upd h1), x1.hh, fun b o z => ?_, fun b z1 z2 => ?_⟩ (.lst upd_same (h3.mono (same_upd h1)))⟩
    · by_cases hb : b = a
      · subst hb; rw [upd_same] at z; cases z; exact h2
      · rw [upd_ne hb] at z; exact x1.gh _ _ z
    · rw [upd_ne (fun z => z1 (by rw [z]; exact na))]; exact x1.hid b z1 z2
  | @k a ks ds h1 h2 h3 =>
    cases e3
    have na : H a = none := n1 rfl a rfl
    obtain ⟨od, I2⟩ := I1.lock h2 trivial
    refine ⟨_, _, I2, rv, q _ (upd G1 a (.frz od (.dK ks))) _ ⟨x1.gg.trans (same_upd h1), fun b o z => ?_, fun b o z => ?_, fun b z1 z2 => ?_⟩ (.dic upd_same (h3.mono (same_upd h1)))⟩
    · rw [upd_ne (ne_of_none z na)]; exact x1.hh _ _ z
    · by_cases hb : b = a
      · subst hb; rw [upd_same] at z ⊢; exact z
      · rw [upd_ne hb] at z ⊢; exact x1.gh _ _ z
    · rw [upd_ne (fun z => z1 (by rw [z]; exact na))]; exact x1.hid b z1 z2
end
end DL

set_option Elab.async false
set_option linter.all false
set_option maxRecDepth 100000
/-! The D layer, 2: expressions. -/
namespace DL
open PySem PySem.Spec PyProof.Rows L2

theorem Dt.ext {K : PySem.W.Frag} {G H G' H' : Hp} {v : V} {d : PyData} (e : Ext G H G' H') (h : Dt K G H v d) : Dt K G' H' v d := by
  cases h with
  | p h => exact .p (h.mono e.gg)
  | l h2 h3 => exact .l (e.hh _ _ h2) (h3.mono e.gg)
  | k h2 h3 => exact .k (e.hh _ _ h2) (h3.mono e.gg)
section
variable {K : PySem.W.Frag} {G H : Hp} {v : V}
theorem Dt.int_ {i : Int} (h : Dt K G H v (.int i)) : v = .int i := by cases h with | p h => cases h; rfl
theorem Dt.bl_ {i : Bool} (h : Dt K G H v (.bool i)) : v = .bl i := by cases h with | p h => cases h; rfl
theorem Dt.str_ {i : Str} (h : Dt K G H v (.str i)) : v = .str i := by cases h with | p h => cases h; rfl
theorem Dt.non_ (h : Dt K G H v .none) : v = .non := by cases h with | p h => cases h; rfl
/-- a list to be read -/
theorem Dt.lst_ {ds : List PyData} (s : Same G H) (h : Dt K G H v (.list ds)) : ∃ a xs, v = .ref a ∧ H a = some (.lst xs) ∧ DqAll K G xs ds := by
  cases h with
  | p h => cases h with | lst h1 h2 => exact ⟨_, _, rfl, s _ _ h1, h2⟩
  | l h2 h3 => exact ⟨_, _, rfl, h2, h3⟩
theorem Dt.tup_ {ds : List PyData} (s : Same G H) (h : Dt K G H v (.tuple ds)) : ∃ a xs, v = .ref a ∧ SqT K H a xs ∧ SqT K G a xs ∧ DqAll K G xs ds := by
  cases h with
  | p h => cases h with | tup h1 h2 => exact ⟨_, _, rfl, sqT_same s h1, h1, h2⟩
theorem Dt.dic_ {ds : List (PyData × PyData)} (s : Same G H) (h : Dt K G H v (.dict ds)) : ∃ a ks, v = .ref a ∧ Rd H a (.dK ks) ∧ DqKv K G ks ds := by
  cases h with
  | p h => cases h with | dic h1 h2 => exact ⟨_, _, rfl, .inr ⟨_, s _ _ h1⟩, h2⟩
  | k h2 h3 => exact ⟨_, _, rfl, .inl h2, h3⟩
/-- the whole as data of H -/
theorem Dt.full {d : PyData} (s : Same G H) (h : Dt K G H v d) (f : flatD d = true) : Dp K H v d := by
  cases h with
  | p h => exact Dq.dp _ _ (h.mono s) f
  | l h2 h3 =>
    rw [flatD] at f
    exact .lst (.of h2) (DqAll.dp _ _ (h3.mono s) f)
  | k h2 h3 => rw [flatD] at f; cases f
end

/-! ### names, constants -/
section
variable {X : Cx} {a b c e : Expr} {es : List Expr} {pos : Pos}
def fV (i : Nat) : En → Option PyData := fun ρ => match ρ[i]? with
  | some (some (.p d)) => some d
  | _ => none
def fVT (i : Nat) : En → Option PyData := fun ρ => match ρ[i]? with
  | some (some s) => s.d
  | _ => none
def fC (d : PyData) : En → Option PyData := fun _ => some d
theorem pd_v (i : Nat) {x : Str} (hN : X.N[i]? = some x := by rfl) (hv : Vis X.env.scope x := by first | exact Or.inl rfl | exact Or.inr (Or.inl rfl) | exact Or.inr (Or.inr rfl)) (hd : (x == ("__debug__" : Str)) = false := by decide)
    (hcd : (x == ("__classdict__" : Str)) = false := by decide) : PD X (.Name x pos) (fV i) := pe_con (pe_var hN hv hd hcd) fun σ H Q ⟨G, ρ, d, R, e, q⟩ => by
  unfold fV at e
  split at e
  · next s hs =>
    cases e
    obtain ⟨v, h1, h2⟩ := R.at_ i _ hs
    cases h2 with
    | p h => exact ⟨v, h1, q v G H (.refl R.sub) h⟩
  · cases e
theorem pt_v (i : Nat) {x : Str} (hN : X.N[i]? = some x := by rfl) (hv : Vis X.env.scope x := by first | exact Or.inl rfl | exact Or.inr (Or.inl rfl) | exact Or.inr (Or.inr rfl)) (hd : (x == ("__debug__" : Str)) = false := by decide)
    (hcd : (x == ("__classdict__" : Str)) = false := by decide) : PTp X (.Name x pos) (fVT i) := pe_con (pe_var hN hv hd hcd) fun σ H Q ⟨G, ρ, d, R, e, q⟩ => by
  unfold fVT at e
  split at e
  · next s hs =>
    obtain ⟨v, h1, h2⟩ := R.at_ i _ hs
    exact ⟨v, h1, q v G H (.refl R.sub) (h2.dt e)⟩
  · cases e
theorem pd_int {i : Int} {j} : PD X (.Constant (.int i) j pos) (fC (.int i)) := pe_con pe_int fun σ H Q ⟨G, ρ, d, R, e, q⟩ => by cases e; exact q _ G H (.refl R.sub) (.int i)
theorem pd_bl {i : Bool} {j} : PD X (.Constant (.bool i) j pos) (fC (.bool i)) := pe_con pe_bl fun σ H Q ⟨G, ρ, d, R, e, q⟩ => by cases e; exact q _ G H (.refl R.sub) (.bl i)
theorem pd_non {j} : PD X (.Constant .none j pos) (fC .none) := pe_con pe_non fun σ H Q ⟨G, ρ, d, R, e, q⟩ => by cases e; exact q _ G H (.refl R.sub) .non
theorem pd_str {i : Str} {j} : PD X (.Constant (.str i) j pos) (fC (.str i)) := pe_con pe_str fun σ H Q ⟨G, ρ, d, R, e, q⟩ => by cases e; exact q _ G H (.refl R.sub) (.str i)
/-- a module's int or text -/
theorem pd_gint {x : Str} {i : Int} (hg : Gl X x) (hm : ∃ t, X.mg x = some (.int i t)) (hd : (x == ("__debug__" : Str)) = false := by decide) : PD X (.Name x pos) (fC (.int i)) :=
  pe_con (pe_glob (v := .int i) hg hm.choose_spec ⟨_, rfl⟩ hd) fun σ H Q ⟨G, ρ, d, R, e, q⟩ => by cases e; exact q _ G H (.refl R.sub) (.int i)
theorem pd_gstr {x : Str} {i : Str} (hg : Gl X x) (hm : ∃ t, X.mg x = some (.str i t)) (hd : (x == ("__debug__" : Str)) = false := by decide) : PD X (.Name x pos) (fC (.str i)) :=
  pe_con (pe_glob (v := .str i) hg hm.choose_spec ⟨_, rfl⟩ hd) fun σ H Q ⟨G, ρ, d, R, e, q⟩ => by cases e; exact q _ G H (.refl R.sub) (.str i)

/-! ### two operands -/
def f2 {α : Type} (g : PyData → PyData → Option α) (fa fb : En → Option PyData) : En → Option α := fun ρ => (fa ρ).bind fun x => (fb ρ).bind fun y => g x y
def f1 {α β : Type} (g : α → Option β) (fa : En → Option α) : En → Option β := fun ρ => (fa ρ).bind g
theorem f2_some {α : Type} {g : PyData → PyData → Option α} {fa fb : En → Option PyData} {ρ : En} {s : α} (e : f2 g fa fb ρ = some s) : ∃ x y, fa ρ = some x ∧ fb ρ = some y ∧ g x y = some s := by
  unfold f2 at e
  obtain ⟨x, h1, e⟩ := Option.bind_eq_some_iff.mp e
  obtain ⟨y, h2, e⟩ := Option.bind_eq_some_iff.mp e
  exact ⟨x, y, h1, h2, e⟩
theorem f1_some {α β : Type} {g : α → Option β} {fa : En → Option α} {ρ : En} {s : β} (e : f1 g fa ρ = some s) : ∃ x, fa ρ = some x ∧ g x = some s := Option.bind_eq_some_iff.mp e
variable {fa fb fc : En → Option PyData}
/-- what an operation on two values must do: give clean data -/
def Rd2 (K : PySem.W.Frag) (r : R2) (g : PyData → PyData → Option PyData) : Prop :=
  ∀ (G H : Hp) (x y : V) (dx dy d : PyData) (Q : VK), Same G H → Dt K G H x dx → Dt K G H y dy → g dx dy = some d → (∀ v G' H', Ext G H G' H' → Dq K G' v d → Q v H') → r x y H Q
/-- .. or a new list -/
def Rf2 (K : PySem.W.Frag) (r : R2) (g : PyData → PyData → Option Sl) : Prop :=
  ∀ (G H : Hp) (x y : V) (dx dy : PyData) (s : Sl) (Q : VK), Same G H → Dt K G H x dx → Dt K G H y dy → g dx dy = some s →
    (∀ v G' H', Ext G H G' H' → SlR K G' H' v s → (s.own = true → ∀ a, v = .ref a → H a = none) → Q v H') → r x y H Q
theorem tOp_d {r : R2} {g} (hg : Rd2 X.K r g) : ∀ σ H Q, tD X.K (f2 g fa fb) σ H Q → tOp r (tT X.K fa) (tT X.K fb) σ H Q := fun σ H Q ⟨G, ρ, s, R, e, q⟩ => by
  obtain ⟨dx, dy, e1, e2, e3⟩ := f2_some e
  exact ⟨G, ρ, dx, R, e1, fun x G1 H1 x1 rx => ⟨G1, ρ, dy, R.ext x1, e2, fun y G2 H2 x2 ry => hg G2 H2 x y dx dy s Q x2.gh (rx.ext x2) ry e3 fun v G' H' x3 rv => q v G' H' (x1.trans (x2.trans x3)) rv⟩⟩
theorem tOp_f {r : R2} {g} (hg : Rf2 X.K r g) : ∀ σ H Q, tF X.K (f2 g fa fb) σ H Q → tOp r (tT X.K fa) (tT X.K fb) σ H Q := fun σ H Q ⟨G, ρ, s, R, e, q⟩ => by
  obtain ⟨dx, dy, e1, e2, e3⟩ := f2_some e
  exact ⟨G, ρ, dx, R, e1, fun x G1 H1 x1 rx => ⟨G1, ρ, dy, R.ext x1, e2, fun y G2 H2 x2 ry => hg G2 H2 x y dx dy s Q x2.gh (rx.ext x2) ry e3 fun v G' H' x3 rv fr => q v G' H' (x1.trans (x2.trans x3)) rv fun o a z => (x1.hh.trans x2.hh).free (fr o a z)⟩⟩
theorem pd_bin {op : Operator} {r : R2} {g} (ho : OpR X (binaryOp op) r) (hg : Rd2 X.K r g) (ha : PTp X a fa) (hb : PTp X b fb) : PD X (.BinOp a op b pos) (f2 g fa fb) := pe_con (pe_op ho ha hb) (tOp_d hg)
theorem pf_bin {op : Operator} {r : R2} {g} (ho : OpR X (binaryOp op) r) (hg : Rf2 X.K r g) (ha : PTp X a fa) (hb : PTp X b fb) : PF X (.BinOp a op b pos) (f2 g fa fb) := pe_con (pe_op ho ha hb) (tOp_f hg)

/-- the most items that a list made here may have -/
abbrev most : Nat := 1000000
theorem most_line {n : Nat} (h : n ≤ most) : n ≤ sizeLine := by
  rw [sizeLine_eq]; exact Nat.le_trans h (by decide)
theorem most_lt {n : Nat} (h : n ≤ most) : n < sizeLine := by
  rw [sizeLine_eq]; exact Nat.lt_of_le_of_lt h (by decide)
/-- a new list -/
theorem new_list {K : PySem.W.Frag} {G H : Hp} {p : Addr} {xs : List V} {ds : List PyData} (s : Same G H) (hp : H p = none) (h : DqAll K G xs ds) :
    Ext G H G (upd H p (.lst xs)) ∧ SlR K G (upd H p (.lst xs)) (.ref p) (.l ds) ∧ ((Sl.l ds).own = true → ∀ a, V.ref p = .ref a → H a = none) :=
  ⟨.hidden s hp, .l (s.free hp) upd_same h, fun _ a z => by cases z; exact hp⟩
theorem new_tup {K : PySem.W.Frag} {G H : Hp} {p : Addr} {xs : List V} {ds : List PyData} (s : Same G H) (hp : H p = none) (h : DqAll K G xs ds) :
    Ext G H (upd G p (.tup xs)) (upd H p (.tup xs)) ∧ Dq K (upd G p (.tup xs)) (.ref p) (.tuple ds) :=
  ⟨.new s hp, .tup (.of upd_same) (h.mono (same_upd (s.free hp)))⟩

/-! ### + -/
def addS : PyData → PyData → Option Sl
  | .int i, .int j => some (.p (.int (i + j)))
  | .list xs, .list ys => if xs.length + ys.length ≤ most then some (.l (xs ++ ys)) else none
  | .tuple xs, .tuple ys => if xs.length + ys.length ≤ most then some (.p (.tuple (xs ++ ys))) else none
  | .str x, .str y => if x.length + y.length ≤ most then some (.p (.str (x ++ y))) else none
  | _, _ => none
theorem app_nil {K : PySem.W.Frag} {G : Hp} {ds : List PyData} (h : DqAll K G [] ds) : ds = [] := by cases h; rfl
def OrR (r r' : R2) : R2 := fun x y H Q => r x y H Q ∨ r' x y H Q
theorem op_addAll : OpR X (binaryOp .Add) (OrR (rI0 fun i j => .int (i + j)) (OrR rCat (OrR (rCatA X.K) (fun x y H Q => ∃ i j, x = .str i ∧ y = .str j ∧ i.length + j.length ≤ sizeLine ∧ Q (.str (i ++ j)) H)))) :=
  OpR.or op_add (OpR.or op_cat (OpR.or op_catA op_add_str))
theorem rf_add : Rf2 X.K (OrR (rI0 fun i j => .int (i + j)) (OrR rCat (OrR (rCatA X.K) (fun x y H Q => ∃ i j, x = .str i ∧ y = .str j ∧ i.length + j.length ≤ sizeLine ∧ Q (.str (i ++ j)) H)))) addS := by
  intro G H x y dx dy s Q sm hx hy e q
  unfold addS at e
  split at e
  · cases e; exact .inl ⟨_, _, hx.int_, hy.int_, q _ G H (.refl sm) (.p (.int _)) (fun z => nomatch z)⟩
  · split at e
    · next hz =>
      cases e
      obtain ⟨a, xs, rfl, ha, hxs⟩ := hx.lst_ sm
      obtain ⟨b, ys, rfl, hb, hys⟩ := hy.lst_ sm
      refine .inr (.inl ⟨_, _, _, _, rfl, rfl, ha, hb, most_line (by rw [hxs.len, hys.len]; exact hz), fun p hp => ?_⟩)
      obtain ⟨h1, h2, h3⟩ := new_list sm hp (hxs.app hys)
      exact q _ _ _ h1 h2 h3
    · cases e
  · split at e
    · next hz =>
      cases e
      obtain ⟨a, xs, rfl, ha, ha', hxs⟩ := hx.tup_ sm
      obtain ⟨b, ys, rfl, hb, hb', hys⟩ := hy.tup_ sm
      refine .inr (.inr (.inl ⟨_, _, _, _, rfl, rfl, ha, hb, most_line (by rw [hxs.len, hys.len]; exact hz), fun z => ?_, fun _ z => ?_, fun _ _ p hp => ?_⟩))
      · subst z
        rw [app_nil hxs] at q
        exact q _ G H (.refl sm) (.p (.tup hb' (by simpa using hys))) (fun z => nomatch z)
      · subst z
        rw [app_nil hys] at q
        exact q _ G H (.refl sm) (.p (.tup ha' (by simpa using hxs))) (fun z => nomatch z)
      · obtain ⟨h1, h2⟩ := new_tup sm hp (hxs.app hys)
        exact q _ _ _ h1 (.p h2) (fun z => nomatch z)
    · cases e
  · split at e
    · next hz =>
      cases e
      exact .inr (.inr (.inr ⟨_, _, hx.str_, hy.str_, most_line hz, q _ G H (.refl sm) (.p (.str _)) (fun z => nomatch z)⟩))
    · cases e
  · cases e
/-- a + b -/
theorem pf_add (ha : PTp X a fa) (hb : PTp X b fb) : PF X (.BinOp a .Add b pos) (f2 addS fa fb) := pf_bin op_addAll rf_add ha hb
/-! ### -, *, //, %, ** -/
def subD : PyData → PyData → Option PyData
  | .int i, .int j => some (.int (i - j))
  | _, _ => none
theorem pd_sub (ha : PTp X a fa) (hb : PTp X b fb) : PD X (.BinOp a .Sub b pos) (f2 subD fa fb) := pd_bin op_sub (by
  intro G H x y dx dy s Q sm hx hy e q
  unfold subD at e
  split at e
  · cases e; exact ⟨_, _, hx.int_, hy.int_, q _ G H (.refl sm) (.int _)⟩
  · cases e) ha hb
/-- a product of ints: together below a million bits -/
def mulOk (i j : Int) : Bool := decide (i.natAbs.log2 + j.natAbs.log2 < 1000000)
def mulS : PyData → PyData → Option Sl
  | .int i, .int j => if mulOk i j then some (.p (.int (i * j))) else none
  | .list xs, .int k => if k ≤ 1000000 ∧ -1000000 ≤ k ∧ xs.length * k.toNat ≤ most then some (.l (List.replicate k.toNat xs).flatten) else none
  | .tuple xs, .int k => if 2 ≤ k ∧ k ≤ 1000 ∧ xs.length ≤ 1000 ∧ xs ≠ [] then some (.p (.tuple (List.replicate k.toNat xs).flatten)) else none
  | _, _ => none
theorem DqAll.rep {K : PySem.W.Frag} {G : Hp} {xs : List V} {ds : List PyData} (h : DqAll K G xs ds) : ∀ n, DqAll K G (List.replicate n xs).flatten (List.replicate n ds).flatten
  | 0 => .nil
  | n + 1 => by simpa [List.replicate_succ] using h.app (DqAll.rep h n)
theorem pf_mul (ha : PTp X a fa) (hb : PTp X b fb) : PF X (.BinOp a .Mult b pos) (f2 mulS fa fb) := pf_bin (OpR.or op_mulW (OpR.or op_rep op_repT)) (by
  intro G H x y dx dy s Q sm hx hy e q
  unfold mulS at e
  split at e
  · split at e
    · next hz => cases e; exact .inl ⟨_, _, hx.int_, hy.int_, (of_decide_eq_true hz : _ < _), q _ G H (.refl sm) (.p (.int _)) (fun z => nomatch z)⟩
    · cases e
  · split at e
    · next hz =>
      cases e
      obtain ⟨a, xs, rfl, ha, hxs⟩ := hx.lst_ sm
      refine .inr (.inl ⟨_, _, _, rfl, hy.int_, ha, by omega, by omega, most_line (by rw [hxs.len]; exact hz.2.2), fun p hp => ?_⟩)
      obtain ⟨h1, h2, h3⟩ := new_list sm hp (hxs.rep _)
      exact q _ _ _ h1 h2 h3
    · cases e
  · split at e
    · next hz =>
      cases e
      obtain ⟨a, xs, rfl, ha, ha', hxs⟩ := hx.tup_ sm
      refine .inr (.inr ⟨_, _, _, rfl, hy.int_, ha, fun z => ?_, hz.1, hz.2.1, by rw [hxs.len]; exact hz.2.2.1, fun p hp => ?_⟩)
      · subst z; exact hz.2.2.2 (app_nil hxs)
      · obtain ⟨h1, h2⟩ := new_tup sm hp (hxs.rep _)
        exact q _ _ _ h1 (.p h2) (fun z => nomatch z)
    · cases e
  · cases e) ha hb
/-- a // b: b above 0, or small -/
def divD : PyData → PyData → Option PyData
  | .int i, .int j => if 0 < j then (if j.natAbs.log2 < 9000 then some (.int (i / j)) else none) else if j ≠ 0 ∧ j.natAbs < 1073741824 then some (.int (i.fdiv j)) else none
  | _, _ => none
theorem pd_div (ha : PTp X a fa) (hb : PTp X b fb) : PD X (.BinOp a .FloorDiv b pos) (f2 divD fa fb) := pd_bin (OpR.or op_fdivW op_fdivN) (by
  intro G H x y dx dy s Q sm hx hy e q
  unfold divD at e
  split at e
  · split at e
    · next h0 =>
      split at e
      · next h1 => cases e; exact .inl ⟨_, _, hx.int_, hy.int_, ⟨h0, h1⟩, q _ G H (.refl sm) (.int _)⟩
      · cases e
    · split at e
      · next h1 => cases e; exact .inr ⟨_, _, hx.int_, hy.int_, h1, q _ G H (.refl sm) (.int _)⟩
      · cases e
  · cases e) ha hb
def modD : PyData → PyData → Option PyData
  | .int i, .int j => if 0 < j then some (.int (i % j)) else if j ≠ 0 then some (.int (i.fmod j)) else none
  | _, _ => none
theorem pd_mod (ha : PTp X a fa) (hb : PTp X b fb) : PD X (.BinOp a .Mod b pos) (f2 modD fa fb) := pd_bin (OpR.or op_mod op_modN) (by
  intro G H x y dx dy s Q sm hx hy e q
  unfold modD at e
  split at e
  · split at e
    · next h0 => cases e; exact .inl ⟨_, _, hx.int_, hy.int_, h0, q _ G H (.refl sm) (.int _)⟩
    · split at e
      · next h1 => cases e; exact .inr ⟨_, _, hx.int_, hy.int_, h1, q _ G H (.refl sm) (.int _)⟩
      · cases e
  · cases e) ha hb
def powD : PyData → PyData → Option PyData
  | .int i, .int j => if 0 ≤ j ∧ j ≤ 1000000 ∧ i.natAbs < 2 ^ 64 then some (.int (i ^ j.toNat)) else none
  | _, _ => none
theorem pd_pow (ha : PTp X a fa) (hb : PTp X b fb) : PD X (.BinOp a .Pow b pos) (f2 powD fa fb) := pd_bin op_pow (by
  intro G H x y dx dy s Q sm hx hy e q
  unfold powD at e
  split at e
  · split at e
    · next h1 => cases e; exact ⟨_, _, hx.int_, hy.int_, h1, q _ G H (.refl sm) (.int _)⟩
    · cases e
  · cases e) ha hb
def shlD : PyData → PyData → Option PyData
  | .int i, .int j => if 0 ≤ j ∧ j ≤ 1000000 ∧ i.natAbs < 2 ^ 64 then some (.int (i * 2 ^ j.toNat)) else none
  | _, _ => none
theorem pd_shl (ha : PTp X a fa) (hb : PTp X b fb) : PD X (.BinOp a .LShift b pos) (f2 shlD fa fb) := pd_bin op_shl (by
  intro G H x y dx dy s Q sm hx hy e q
  unfold shlD at e
  split at e
  · split at e
    · next h1 => cases e; exact ⟨_, _, hx.int_, hy.int_, h1, q _ G H (.refl sm) (.int _)⟩
    · cases e
  · cases e) ha hb
def negD : PyData → Option PyData
  | .int i => some (.int (-i))
  | _ => none
theorem pd_neg (ha : PTp X a fa) : PD X (.UnaryOp .USub a pos) (f1 negD fa) := pe_con (pe_un un_neg ha) fun σ H Q ⟨G, ρ, s, R, e, q⟩ => by
  obtain ⟨dx, e1, e2⟩ := f1_some e
  unfold negD at e2
  split at e2
  · cases e2
    exact ⟨G, ρ, _, R, e1, fun x G1 H1 x1 rx => ⟨_, rx.int_, q _ G1 H1 x1 (.int _)⟩⟩
  · cases e2
end
end DL

set_option Elab.async false
set_option linter.all false
set_option maxRecDepth 100000
/-! The D layer, 3: comparisons, tests, subscripts, displays, built-in functions. -/
namespace DL
open PySem PySem.Spec PyProof.Rows L2

/-! ### data of depth at most n, without dicts -/
mutual
def okD (n : Nat) : PyData → Bool
  | .none => true
  | .bool _ => true
  | .int _ => true
  | .str x => PyData.strOk x
  | .list xs => match n with
    | 0 => false
    | m + 1 => okAll m xs
  | .tuple xs => match n with
    | 0 => false
    | m + 1 => okAll m xs
  | .dict _ => false
def okAll (n : Nat) : List PyData → Bool
  | [] => true
  | x :: xs => okD n x && okAll n xs
end
mutual
theorem okD_flat : ∀ (d : PyData) (n : Nat), okD n d = true → flatD d = true
  | .none, _, _ => by rw [flatD] <;> simp
  | .bool _, _, _ => by rw [flatD] <;> simp
  | .int _, _, _ => by rw [flatD] <;> simp
  | .str _, _, _ => by rw [flatD] <;> simp
  | .list xs, 0, h => by rw [okD] at h; cases h
  | .list xs, n + 1, h => by rw [okD] at h; rw [flatD]; exact okAll_flat xs n h
  | .tuple xs, 0, h => by rw [okD] at h; cases h
  | .tuple xs, n + 1, h => by rw [okD] at h; rw [flatD]; exact okAll_flat xs n h
  | .dict _, _, h => by rw [okD] at h; cases h
theorem okAll_flat : ∀ (ds : List PyData) (n : Nat), okAll n ds = true → flatAll ds = true
  | [], _, _ => by rw [flatAll]
  | d :: ds, n, h => by
    rw [okAll, Bool.and_eq_true] at h
    rw [flatAll, okD_flat d n h.1, okAll_flat ds n h.2] <;> rfl
end
mutual
theorem okD_can : ∀ (d : PyData) (n : Nat), okD n d = true → d.canLay0 = true
  | .none, _, _ => by rw [PyData.canLay0]
  | .bool _, _, _ => by rw [PyData.canLay0]
  | .int _, _, _ => by rw [PyData.canLay0]
  | .str _, _, h => by rw [okD] at h; rw [PyData.canLay0]; exact h
  | .list xs, 0, h => by rw [okD] at h; cases h
  | .list xs, n + 1, h => by rw [okD] at h; rw [PyData.canLay0]; exact okAll_can xs n h
  | .tuple xs, 0, h => by rw [okD] at h; cases h
  | .tuple xs, n + 1, h => by rw [okD] at h; rw [PyData.canLay0]; exact okAll_can xs n h
  | .dict _, _, h => by rw [okD] at h; cases h
theorem okAll_can : ∀ (ds : List PyData) (n : Nat), okAll n ds = true → PyData.canLayAll0 ds = true
  | [], _, _ => by rw [PyData.canLayAll0]
  | d :: ds, n, h => by
    rw [okAll, Bool.and_eq_true] at h
    rw [PyData.canLayAll0, okD_can d n h.1, okAll_can ds n h.2] <;> rfl
end
mutual
theorem okD_depth : ∀ (d : PyData) (n : Nat), okD n d = true → d.depth ≤ n
  | .none, _, _ => by rw [PyData.depth] <;> simp
  | .bool _, _, _ => by rw [PyData.depth] <;> simp
  | .int _, _, _ => by rw [PyData.depth] <;> simp
  | .str _, _, h => by rw [PyData.depth] <;> simp
  | .list xs, 0, h => by rw [okD] at h; cases h
  | .list xs, n + 1, h => by rw [okD] at h; rw [PyData.depth]; have := okAll_depth xs n h; omega
  | .tuple xs, 0, h => by rw [okD] at h; cases h
  | .tuple xs, n + 1, h => by rw [okD] at h; rw [PyData.depth]; have := okAll_depth xs n h; omega
  | .dict _, _, h => by rw [okD] at h; cases h
theorem okAll_depth : ∀ (ds : List PyData) (n : Nat), okAll n ds = true → PyData.depthAll ds ≤ n
  | [], _, _ => by rw [PyData.depthAll]; omega
  | d :: ds, n, h => by
    rw [okAll, Bool.and_eq_true] at h
    have h1 := okD_depth d n h.1
    have h2 := okAll_depth ds n h.2
    rw [PyData.depthAll]; omega
end
theorem okD_shaped {d : PyData} (h : okD 60 d = true) : SeqAt.shaped d = true := by
  unfold SeqAt.shaped
  rw [okD_can d _ h, decide_eq_true (Nat.le_trans (okD_depth d _ h) (by decide))] <;> rfl
/-- == -/
def eqD (x y : PyData) : Option PyData := if okD 60 x && okD 60 y then some (.bool (PyData.eqv x y)) else none
def neD (x y : PyData) : Option PyData := if okD 60 x && okD 60 y then some (.bool (!PyData.eqv x y)) else none
section
variable {X : Cx} {a b c e : Expr} {es : List Expr} {pos : Pos} {fa fb fc : En → Option PyData} {k : Nat}
theorem rd_eq : Rd2 X.K (rEqD X.K) eqD := by
  intro G H x y dx dy s Q sm hx hy e q
  unfold eqD at e
  split at e
  · next h =>
    rw [Bool.and_eq_true] at h
    cases e
    exact ⟨dx, dy, hx.full sm (okD_flat _ _ h.1), hy.full sm (okD_flat _ _ h.2), okD_shaped h.1, okD_shaped h.2, q _ G H (.refl sm) (.bl _)⟩
  · cases e
theorem rd_ne : Rd2 X.K (rNeD X.K) neD := by
  intro G H x y dx dy s Q sm hx hy e q
  unfold neD at e
  split at e
  · next h =>
    rw [Bool.and_eq_true] at h
    cases e
    exact ⟨dx, dy, hx.full sm (okD_flat _ _ h.1), hy.full sm (okD_flat _ _ h.2), okD_shaped h.1, okD_shaped h.2, q _ G H (.refl sm) (.bl _)⟩
  · cases e
/-- one comparison's rule, by values and data -/
structure CmpD (X : Cx) (op : CmpOp) (g : PyData → PyData → Option PyData) : Prop where
  ex : ∃ r, OpR X (compareOp op) r ∧ Rd2 X.K r g
theorem cmp_eq (hr : Room k X.A) : CmpD X .Eq eqD := ⟨_, op_eqD hr.units, rd_eq⟩
theorem cmp_ne (hr : Room k X.A) : CmpD X .NotEq neD := ⟨_, op_neD hr.units, rd_ne⟩
def cmpI (p : Int → Int → Bool) : PyData → PyData → Option PyData
  | .int i, .int j => some (.bool (p i j))
  | _, _ => none
theorem rd_cmpI {p : Int → Int → Bool} : Rd2 X.K (rI0 fun i j => .bl (p i j)) (cmpI p) := by
  intro G H x y dx dy s Q sm hx hy e q
  unfold cmpI at e
  split at e
  · cases e; exact ⟨_, _, hx.int_, hy.int_, q _ G H (.refl sm) (.bl _)⟩
  · cases e
abbrev ltD := cmpI fun i j => decide (i < j)
abbrev leD := cmpI fun i j => decide (i ≤ j)
abbrev gtD := cmpI fun i j => decide (j < i)
abbrev geD := cmpI fun i j => decide (j ≤ i)
theorem cmp_lt : CmpD X .Lt ltD := ⟨_, op_lt, rd_cmpI⟩
theorem cmp_le : CmpD X .LtE leD := ⟨_, op_le, rd_cmpI⟩
theorem cmp_gt : CmpD X .Gt gtD := ⟨_, op_gt, rd_cmpI⟩
theorem cmp_ge : CmpD X .GtE geD := ⟨_, op_ge, rd_cmpI⟩
/-- x is None -/
def nonB : PyData → Bool
  | .none => true
  | _ => false
def isD : PyData → PyData → Option PyData
  | x, .none => some (.bool (nonB x))
  | _, _ => none
def isnotD : PyData → PyData → Option PyData
  | x, .none => some (.bool (!nonB x))
  | _, _ => none
theorem dt_none {K : PySem.W.Frag} {G H : Hp} {v : V} {d : PyData} (h : Dt K G H v d) : decide (v = .non) = nonB d := by
  cases h with
  | p h => cases h <;> first | rfl | exact decide_eq_false (fun z => nomatch z)
  | l _ _ => exact decide_eq_false (fun z => nomatch z)
  | k _ _ => exact decide_eq_false (fun z => nomatch z)
theorem cmp_is : CmpD X .Is isD := ⟨_, op_isN, by
  intro G H x y dx dy s Q sm hx hy e q
  unfold isD at e
  split at e
  · cases e
    refine ⟨hy.non_, ?_⟩
    rw [dt_none hx]; exact q _ G H (.refl sm) (.bl _)
  · cases e⟩
theorem cmp_isnot : CmpD X .IsNot isnotD := ⟨_, op_notN, by
  intro G H x y dx dy s Q sm hx hy e q
  unfold isnotD at e
  split at e
  · cases e
    refine ⟨hy.non_, ?_⟩
    rw [dt_none hx]; exact q _ G H (.refl sm) (.bl _)
  · cases e⟩
/-- x in xs -/
def scalD : PyData → Bool
  | .none => true
  | .bool _ => true
  | .int _ => true
  | .str _ => true
  | _ => false
def inB : PyData → PyData → Option Bool
  | x, .list ys => if okD 60 x && okD 60 (.list ys) then some (ys.any fun z => PyData.eqv z x) else none
  | x, .tuple ys => if scalD x && ys.all scalD then some (ys.any fun z => PyData.eqv z x) else none
  | _, _ => none
def inD (x y : PyData) : Option PyData := (inB x y).map .bool
def notinD (x y : PyData) : Option PyData := (inB x y).map fun z => .bool (!z)
theorem scal_eqv {K : PySem.W.Frag} {G : Hp} {v u : V} {d d' : PyData} (h : Dq K G v d) (h' : Dq K G u d') (s : scalD d = true) (s' : scalD d' = true) : eqV v u = PyData.eqv d d' ∧ flatV v = true ∧ flatV u = true := by
  cases h <;> cases h' <;> first | (cases s; done) | (cases s'; done) | (refine ⟨?_, rfl, rfl⟩; simp [eqV, PyData.eqv])
theorem scal_any {K : PySem.W.Frag} {G : Hp} {u : V} {d' : PyData} (h' : Dq K G u d') (s' : scalD d' = true) : ∀ {vs : List V} {ds : List PyData}, DqAll K G vs ds → ds.all scalD = true → inV u vs = (ds.any fun z => PyData.eqv z d') ∧ vs.all flatV = true
  | _, _, .nil, _ => ⟨rfl, rfl⟩
  | _, _, .cons h t, s => by
    rw [List.all_cons, Bool.and_eq_true] at s
    obtain ⟨h1, h2, h3⟩ := scal_eqv h h' s.1 s'
    obtain ⟨t1, t2⟩ := scal_any h' s' t s.2
    refine ⟨?_, by rw [List.all_cons, h2, t2] <;> rfl⟩
    unfold inV at t1 ⊢
    rw [List.any_cons, List.any_cons, h1, t1]
theorem dt_scal {K : PySem.W.Frag} {G H : Hp} {v : V} {d : PyData} (h : Dt K G H v d) (s : scalD d = true) : Dq K G v d := by
  cases h with
  | p h => exact h
  | l _ _ => cases s
  | k _ _ => cases s
theorem units65 {A : Around} (hr : Room k A) : A.units + 65 < cLine := by have := hr.un; omega
theorem cmp_in (hr : Room k X.A) : CmpD X .In inD := ⟨_, OpR.or (op_inD (units65 hr)) op_in_seq, by
  intro G H x y dx dy s Q sm hx hy e q
  obtain ⟨z, e2, rfl⟩ := Option.map_eq_some_iff.mp e
  unfold inB at e2
  split at e2
  · split at e2
    · next h =>
      rw [Bool.and_eq_true] at h
      cases e2
      exact .inl ⟨dx, _, hx.full sm (okD_flat _ _ h.1), hy.full sm (okD_flat _ _ h.2), okD_shaped h.1, okD_shaped h.2, q _ G H (.refl sm) (.bl _)⟩
    · cases e2
  · split at e2
    · next h =>
      rw [Bool.and_eq_true] at h
      cases e2
      obtain ⟨a, xs, rfl, h1, h2, h3⟩ := hy.tup_ sm
      obtain ⟨t1, t2⟩ := scal_any (dt_scal hx h.1) h.1 h3 h.2
      refine .inr ⟨a, xs, rfl, .inr h1, (scal_eqv (dt_scal hx h.1) (dt_scal hx h.1) h.1 h.1).2.1, t2, ?_⟩
      rw [t1]
      exact q _ G H (.refl sm) (.bl _)
    · cases e2
  · cases e2⟩
theorem cmp_notin (hr : Room k X.A) : CmpD X .NotIn notinD := ⟨_, OpR.or (op_notInD (units65 hr)) op_notIn_seq, by
  intro G H x y dx dy s Q sm hx hy e q
  obtain ⟨z, e2, rfl⟩ := Option.map_eq_some_iff.mp e
  unfold inB at e2
  split at e2
  · split at e2
    · next h =>
      rw [Bool.and_eq_true] at h
      cases e2
      exact .inl ⟨dx, _, hx.full sm (okD_flat _ _ h.1), hy.full sm (okD_flat _ _ h.2), okD_shaped h.1, okD_shaped h.2, q _ G H (.refl sm) (.bl _)⟩
    · cases e2
  · split at e2
    · next h =>
      rw [Bool.and_eq_true] at h
      cases e2
      obtain ⟨a, xs, rfl, h1, h2, h3⟩ := hy.tup_ sm
      obtain ⟨t1, t2⟩ := scal_any (dt_scal hx h.1) h.1 h3 h.2
      refine .inr ⟨a, xs, rfl, .inr h1, (scal_eqv (dt_scal hx h.1) (dt_scal hx h.1) h.1 h.1).2.1, t2, ?_⟩
      rw [t1]
      exact q _ G H (.refl sm) (.bl _)
    · cases e2
  · cases e2⟩
theorem pd_cmp {op : CmpOp} {g} (h : CmpD X op g) (ha : PTp X a fa) (hb : PTp X b fb) (hm : behindInMarks op b = false := by first | exact nobehind _ (by decide) (by decide) | rfl) : PD X (.Compare a [op] [b] pos) (f2 g fa fb) := by
  obtain ⟨r, ho, hg⟩ := h.ex
  exact pe_con (pe_cmpR ho ha hb hm) (tOp_d hg)
/-- data as a truth value: a bool -/
def bo : PyData → Option Bool
  | .bool b => some b
  | _ => none
theorem bo_some {d : PyData} {z : Bool} (h : bo d = some z) : d = .bool z := by
  cases d <;> simp [bo] at h
  rw [h]
theorem tTest_d {t : TE} {f : En → Option PyData} (h : ∀ σ H Q, tD X.K f σ H Q → t σ H Q) : ∀ σ H Q, DL.tB X.K (f1 bo f) σ H Q → tTest t σ H Q := fun σ H Q ⟨G, ρ, z, R, e, q⟩ => by
  obtain ⟨d, e1, e2⟩ := f1_some e
  obtain rfl := bo_some e2
  exact h _ _ _ ⟨G, ρ, _, R, e1, fun v G' H' x r => by cases r; exact ⟨_, rfl, q G' H' x⟩⟩
theorem pb_cmp {op : CmpOp} {g} (h : CmpD X op g) (ha : PTp X a fa) (hb : PTp X b fb) (hm : behindInMarks op b = false := by first | exact nobehind _ (by decide) (by decide) | rfl) : PB X (.Compare a [op] [b] pos) (f1 bo (f2 g fa fb)) := by
  obtain ⟨r, ho, hg⟩ := h.ex
  exact pt_con (pt_cmpR ho ha hb hm) (tTest_d (tOp_d hg))
/-- a < b < c -/
def fChain (g g' : PyData → PyData → Option PyData) (fa fb fc : En → Option PyData) : En → Option PyData := fun ρ => (fa ρ).bind fun x => (fb ρ).bind fun y => (g x y).bind fun z => match z with
  | .bool true => (fc ρ).bind fun w => g' y w
  | .bool false => some (.bool false)
  | _ => none
theorem tChain_d {r r' : R2} {g g'} (hg : Rd2 X.K r g) (hg' : Rd2 X.K r' g') : ∀ σ H Q, tD X.K (fChain g g' fa fb fc) σ H Q → tChain r r' (tT X.K fa) (tT X.K fb) (tT X.K fc) σ H Q := fun σ H Q ⟨G, ρ, s, R, e, q⟩ => by
  obtain ⟨dx, e1, e⟩ := Option.bind_eq_some_iff.mp e
  obtain ⟨dy, e2, e⟩ := Option.bind_eq_some_iff.mp e
  obtain ⟨dz, e3, e⟩ := Option.bind_eq_some_iff.mp e
  refine ⟨G, ρ, dx, R, e1, fun x G1 H1 x1 rx => ⟨G1, ρ, dy, R.ext x1, e2, fun y G2 H2 x2 ry => hg G2 H2 x y dx dy dz _ x2.gh (rx.ext x2) ry e3 fun v G3 H3 x3 rv => ?_⟩⟩
  cases dz with
  | bool z =>
    cases rv
    refine ⟨z, rfl, ?_⟩
    cases z with
    | false => cases e; rw [if_neg Bool.false_ne_true]; exact q _ G3 H3 (x1.trans (x2.trans x3)) (.bl _)
    | true =>
      obtain ⟨dw, e4, e⟩ := Option.bind_eq_some_iff.mp e
      rw [if_pos rfl]
      exact ⟨G3, ρ, dw, R.ext (x1.trans (x2.trans x3)), e4, fun w' G4 H4 x4 rw' => hg' G4 H4 y w' dy dw s Q x4.gh (ry.ext (x3.trans x4)) rw' e fun v G' H' x5 rv => q v G' H' (x1.trans (x2.trans (x3.trans (x4.trans x5)))) rv⟩
  | _ => cases e
theorem pd_chain {op op' : CmpOp} {g g'} (h : CmpD X op g) (h' : CmpD X op' g') (ha : PTp X a fa) (hb : PTp X b fb) (hc : PTp X c fc) (hm : lastMarks [op, op'] [b, c] = false := by with_unfolding_all rfl) : PD X (.Compare a [op, op'] [b, c] pos) (fChain g g' fa fb fc) := by
  obtain ⟨r, ho, hg⟩ := h.ex
  obtain ⟨r', ho', hg'⟩ := h'.ex
  exact pe_con (pe_chain ho ho' ha hb hc hm) (tChain_d hg hg')
theorem pb_chain {op op' : CmpOp} {g g'} (h : CmpD X op g) (h' : CmpD X op' g') (ha : PTp X a fa) (hb : PTp X b fb) (hc : PTp X c fc) (hm : lastMarks [op, op'] [b, c] = false := by with_unfolding_all rfl) : PB X (.Compare a [op, op'] [b, c] pos) (f1 bo (fChain g g' fa fb fc)) := by
  obtain ⟨r, ho, hg⟩ := h.ex
  obtain ⟨r', ho', hg'⟩ := h'.ex
  exact pt_con (pt_chain ho ho' ha hb hc hm) (tTest_d (tChain_d hg hg'))
/-- an expression that gives a bool, as a test -/
theorem pb_val (h : PD X e fa) (he : ∀ whole, isTrue e X.env whole = (do let v ← whole; standAt e.pos; holding [v] (truthy v)) := by intro _; rfl) : PB X e (f1 bo fa) := pt_con (pt_val h he) (tTest_d fun _ _ _ q => q)
/-- and, or, not as tests -/
abbrev PWb (X : Cx) (e : Expr) (f : En → Option Bool) : Prop := PW X e (DL.tB X.K f)
variable {rest : List Expr} {ba bb : En → Option Bool}
theorem pw_con {t t' : TT} (h : PW X e t) (i : ∀ σ H Q, t' σ H Q → t σ H Q) : PW X e t' := ⟨fun w pins s σ H Q I q => h.run w pins s σ H Q I (i _ _ _ q)⟩
def fAnd (ba bb : En → Option Bool) : En → Option Bool := fun ρ => (ba ρ).bind fun c => if c then bb ρ else some false
def fOr (ba bb : En → Option Bool) : En → Option Bool := fun ρ => (ba ρ).bind fun c => if c then some true else bb ρ
theorem pwb_and1 (ha : PB X a ba) : PWb X (.BoolOp .And [a] pos) ba := pw_and1 ha
theorem pwb_or1 (ha : PB X a ba) : PWb X (.BoolOp .Or [a] pos) ba := pw_or1 ha
theorem pwb_and (ha : PB X a ba) (hb : PWb X (.BoolOp .And (b :: rest) pos) bb) : PWb X (.BoolOp .And (a :: b :: rest) pos) (fAnd ba bb) := pw_con (pw_and ha hb) fun σ H Q ⟨G, ρ, z, R, e, q⟩ => by
  obtain ⟨x, e1, e⟩ := Option.bind_eq_some_iff.mp e
  refine ⟨G, ρ, x, R, e1, fun G1 H1 x1 => ?_⟩
  cases x with
  | false => cases e; exact iteF (q G1 H1 x1)
  | true => exact iteT ⟨G1, ρ, z, R.ext x1, e, fun G2 H2 x2 => q G2 H2 (x1.trans x2)⟩
theorem pwb_or (ha : PB X a ba) (hb : PWb X (.BoolOp .Or (b :: rest) pos) bb) : PWb X (.BoolOp .Or (a :: b :: rest) pos) (fOr ba bb) := pw_con (pw_or ha hb) fun σ H Q ⟨G, ρ, z, R, e, q⟩ => by
  obtain ⟨x, e1, e⟩ := Option.bind_eq_some_iff.mp e
  refine ⟨G, ρ, x, R, e1, fun G1 H1 x1 => ?_⟩
  cases x with
  | true => cases e; exact iteT (q G1 H1 x1)
  | false => exact iteF ⟨G1, ρ, z, R.ext x1, e, fun G2 H2 x2 => q G2 H2 (x1.trans x2)⟩
theorem pb_w {op} {es : List Expr} (h : PWb X (.BoolOp op es pos) ba) : PB X (.BoolOp op es pos) ba := h.pt
theorem pb_not (ha : PB X a ba) : PB X (.UnaryOp .Not a pos) (fun ρ => (ba ρ).map (!·)) := pt_con (pt_not ha) fun σ H Q ⟨G, ρ, z, R, e, q⟩ => by
  obtain ⟨x, e1, rfl⟩ := Option.map_eq_some_iff.mp e
  exact ⟨G, ρ, x, R, e1, fun G1 H1 x1 => q G1 H1 x1⟩
/-- and, or, not as values: bools -/
def fAndV (fa fb : En → Option PyData) : En → Option PyData := fun ρ => (fa ρ).bind fun x => match x with
  | .bool true => fb ρ
  | .bool false => some (.bool false)
  | _ => none
def fOrV (fa fb : En → Option PyData) : En → Option PyData := fun ρ => (fa ρ).bind fun x => match x with
  | .bool true => some (.bool true)
  | .bool false => fb ρ
  | _ => none
theorem pd_one {op} (h : PD X a fa) : PD X (.BoolOp op [a] pos) fa := pe_one h
theorem pd_and (ha : PD X a fa) (hb : PD X (.BoolOp .And (b :: rest) pos) fb) : PD X (.BoolOp .And (a :: b :: rest) pos) (fAndV fa fb) := pe_con (pe_and ha hb) fun σ H Q ⟨G, ρ, z, R, e, q⟩ => by
  obtain ⟨x, e1, e⟩ := Option.bind_eq_some_iff.mp e
  refine ⟨G, ρ, x, R, e1, fun v G1 H1 x1 r1 => ?_⟩
  cases x with
  | bool x =>
    cases r1
    refine ⟨x, rfl, ?_⟩
    cases x with
    | false => cases e; exact iteF (q _ G1 H1 x1 (.bl _))
    | true => exact iteT ⟨G1, ρ, z, R.ext x1, e, fun v G2 H2 x2 r2 => q v G2 H2 (x1.trans x2) r2⟩
  | _ => cases e
theorem pd_or (ha : PD X a fa) (hb : PD X (.BoolOp .Or (b :: rest) pos) fb) : PD X (.BoolOp .Or (a :: b :: rest) pos) (fOrV fa fb) := pe_con (pe_or ha hb) fun σ H Q ⟨G, ρ, z, R, e, q⟩ => by
  obtain ⟨x, e1, e⟩ := Option.bind_eq_some_iff.mp e
  refine ⟨G, ρ, x, R, e1, fun v G1 H1 x1 r1 => ?_⟩
  cases x with
  | bool x =>
    cases r1
    refine ⟨x, rfl, ?_⟩
    cases x with
    | true => cases e; exact iteT (q _ G1 H1 x1 (.bl _))
    | false => exact iteF ⟨G1, ρ, z, R.ext x1, e, fun v G2 H2 x2 r2 => q v G2 H2 (x1.trans x2) r2⟩
  | _ => cases e
def notD : PyData → Option PyData
  | .bool b => some (.bool (!b))
  | _ => none
theorem pd_not (ha : PD X a fa) : PD X (.UnaryOp .Not a pos) (f1 notD fa) := pe_con (pe_not ha) fun σ H Q ⟨G, ρ, z, R, e, q⟩ => by
  obtain ⟨x, e1, e⟩ := f1_some e
  refine ⟨G, ρ, x, R, e1, fun v G1 H1 x1 r1 => ?_⟩
  unfold notD at e
  split at e
  · cases e; cases r1; exact ⟨_, rfl, q _ G1 H1 x1 (.bl _)⟩
  · cases e
/-- a if t else b -/
def fIf {α : Type} (ba : En → Option Bool) (fa fb : En → Option α) : En → Option α := fun ρ => (ba ρ).bind fun c => if c then fa ρ else fb ρ
theorem pd_if (hc : PB X c ba) (ha : PD X a fa) (hb : PD X b fb) : PD X (.IfExp c a b pos) (fIf ba fa fb) := pe_con (pe_ifExp hc ha hb) fun σ H Q ⟨G, ρ, z, R, e, q⟩ => by
  obtain ⟨x, e1, e⟩ := Option.bind_eq_some_iff.mp e
  refine ⟨G, ρ, x, R, e1, fun G1 H1 x1 => ?_⟩
  cases x with
  | true => exact iteT ⟨G1, ρ, z, R.ext x1, e, fun v G2 H2 x2 r => q v G2 H2 (x1.trans x2) r⟩
  | false => exact iteF ⟨G1, ρ, z, R.ext x1, e, fun v G2 H2 x2 r => q v G2 H2 (x1.trans x2) r⟩

/-! ### subscripts, slices -/
def ixD : PyData → PyData → Option PyData
  | .list xs, .int i => atI xs i
  | .tuple xs, .int i => atI xs i
  | .str z, .int i => if z.length ≤ most then (atI z.cps.toList i).map fun c => .str ⟨#[c]⟩ else none
  | _, _ => none
theorem at_dq {K : PySem.W.Frag} {G : Hp} {xs : List V} {ds : List PyData} {i : Int} {d : PyData} (h : DqAll K G xs ds) (e : atI ds i = some d) : ∃ v, atI xs i = some v ∧ Dq K G v d := by
  unfold atI at e ⊢
  obtain ⟨j, e1, e2⟩ := Option.bind_eq_some_iff.mp e
  obtain ⟨v, h1, h2⟩ := h.get e2
  exact ⟨v, by rw [h.len, e1]; exact h1, h2⟩
theorem pd_ix (ha : PTp X a fa) (hb : PTp X b fb) (hs : PlainIx b := by exact fun _ _ => rfl) : PD X (.Subscript a b pos) (f2 ixD fa fb) := pe_con (pe_ix ix_seq ha hb hs) (tOp_d (by
  intro G H x y dx dy s Q sm hx hy e q
  unfold ixD at e
  split at e
  · obtain ⟨a, xs, rfl, h1, h2⟩ := hx.lst_ sm
    obtain ⟨v, e1, r⟩ := at_dq h2 e
    exact .inl ⟨_, _, _, v, rfl, hy.int_, .of h1, e1, q _ G H (.refl sm) r⟩
  · obtain ⟨a, xs, rfl, h1, _, h2⟩ := hx.tup_ sm
    obtain ⟨v, e1, r⟩ := at_dq h2 e
    exact .inr (.inl ⟨_, _, _, v, rfl, hy.int_, h1, e1, q _ G H (.refl sm) r⟩)
  · split at e
    · next hz =>
      obtain ⟨c, e1, rfl⟩ := Option.map_eq_some_iff.mp e
      exact .inr (.inr ⟨_, _, c, hx.str_, hy.int_, most_line hz, e1, q _ G H (.refl sm) (.str _)⟩)
    · cases e
  · cases e))
end
end DL

set_option Elab.async false
set_option linter.all false
set_option maxRecDepth 100000
/-! The D layer, 4: slices, displays, built-in functions. -/
namespace DL
open PySem PySem.Spec PyProof.Rows L2
section
variable {X : Cx} {a b c e : Expr} {es : List Expr} {pos : Pos} {fa fb fc : En → Option PyData} {k : Nat}

/-! ### slices -/
def tPO (f : En → Option (Option Int)) (K : PySem.W.Frag) : TO := fun σ H Q => ∃ G ρ o, Rx K G H σ ρ ∧ f ρ = some o ∧ ∀ G' H', Ext G H G' H' → Q o H'
abbrev POp (X : Cx) (e : Option Expr) (f : En → Option (Option Int)) : Prop := PO X e (tPO f X.K)
theorem po_con {e : Option Expr} {t t' : TO} (h : PO X e t) (i : ∀ σ H Q, t' σ H Q → t σ H Q) : PO X e t' := ⟨fun pins s σ H Q I q => h.run pins s σ H Q I (i _ _ _ q)⟩
def fNo : En → Option (Option Int) := fun _ => some none
def asInt : PyData → Option (Option Int)
  | .int i => some (some i)
  | _ => none
theorem pp_no : POp X none fNo := po_con po_none fun σ H Q ⟨G, ρ, o, R, e, q⟩ => by cases e; exact q G H (.refl R.sub)
theorem pp_at (h : PD X e fa) : POp X (some e) (f1 asInt fa) := po_con (po_some h) fun σ H Q ⟨G, ρ, o, R, e, q⟩ => by
  obtain ⟨d, e1, e2⟩ := f1_some e
  refine ⟨G, ρ, d, R, e1, fun v G1 H1 x1 r1 => ?_⟩
  unfold asInt at e2
  split at e2
  · cases e2; cases r1; exact ⟨_, rfl, q G1 H1 x1⟩
  · cases e2
def cutD {α : Type} (xs : List α) (lo hi : Option Int) : List α := (xs.drop (HT.sIx xs.length 0 lo)).take (HT.sIx xs.length xs.length hi - HT.sIx xs.length 0 lo)
theorem cut_dq {K : PySem.W.Frag} {G : Hp} {xs : List V} {ds : List PyData} (h : DqAll K G xs ds) (lo hi : Option Int) : DqAll K G (cutV xs lo hi) (cutD ds lo hi) := by
  unfold cutV cutD
  rw [h.len]
  exact (h.drop _).take _
def slS (x : PyData) (lo hi : Option Int) : Option Sl := match x with
  | .list xs => some (.l (cutD xs lo hi))
  | .tuple xs => some (.p (.tuple (cutD xs lo hi)))
  | _ => none
def fSl (fa : En → Option PyData) (fl fh : En → Option (Option Int)) : En → Option Sl := fun ρ => (fa ρ).bind fun x => (fl ρ).bind fun lo => (fh ρ).bind fun hi => slS x lo hi
theorem sIx_whole {n d : Nat} {lo hi : Option Int} {α : Type} {xs : List α} (h : HT.sIx xs.length 0 lo = 0 ∧ HT.sIx xs.length xs.length hi = xs.length) : cutD xs lo hi = xs := by
  unfold cutD
  rw [h.1, h.2]
  simp
theorem pf_sl {l h p2} {fl fh} (ha : PTp X a fa) (hl : POp X l fl) (hh : POp X h fh) : PF X (.Subscript a (.Slice l h none p2) pos) (fSl fa fl fh) := pe_con (pe_slice (L2.SlR.or sl_list sl_tupA) ha hl hh) fun σ H Q ⟨G, ρ, s, R, e, q⟩ => by
  obtain ⟨d, e1, e⟩ := Option.bind_eq_some_iff.mp e
  obtain ⟨lo, e2, e⟩ := Option.bind_eq_some_iff.mp e
  obtain ⟨hi, e3, e⟩ := Option.bind_eq_some_iff.mp e
  refine ⟨G, ρ, d, R, e1, fun x G1 H1 x1 r1 => ⟨G1, ρ, lo, R.ext x1, e2, fun G2 H2 x2 => ⟨G2, ρ, hi, R.ext (x1.trans x2), e3, fun G3 H3 x3 => ?_⟩⟩⟩
  have r3 := r1.ext (x2.trans x3)
  have xx := x1.trans (x2.trans x3)
  unfold slS at e
  split at e
  · cases e
    obtain ⟨a, xs, rfl, h1, h2⟩ := r3.lst_ x3.gh
    refine .inl ⟨a, xs, rfl, .of h1, fun p hp => ?_⟩
    obtain ⟨k1, k2, k3⟩ := new_list x3.gh hp (cut_dq h2 lo hi)
    exact q _ _ _ (xx.trans k1) k2 fun o a z => xx.hh.free (k3 o a z)
  · cases e
    obtain ⟨a, xs, rfl, h1, h1', h2⟩ := r3.tup_ x3.gh
    refine .inr ⟨a, xs, rfl, h1, fun z => ?_, fun z p hp => ?_⟩
    · rw [h2.len] at z
      rw [sIx_whole (n := 0) (d := 0) z] at q
      exact q _ _ _ xx (.p (.tup h1' h2)) (fun z => nomatch z)
    · obtain ⟨k1, k2⟩ := new_tup x3.gh hp (cut_dq h2 lo hi)
      exact q _ _ _ (xx.trans k1) (.p k2) (fun z => nomatch z)
  · cases e

/-! ### argument lists, displays -/
def fNil : En → Option (List PyData) := fun _ => some []
def fCons (fa : En → Option PyData) (fr : En → Option (List PyData)) : En → Option (List PyData) := fun ρ => (fa ρ).bind fun x => (fr ρ).map (x :: ·)
def itemsD : PyData → Option (List PyData)
  | .list xs => some xs
  | .tuple xs => some xs
  | _ => none
def fStar (fa : En → Option PyData) (fr : En → Option (List PyData)) : En → Option (List PyData) := fun ρ => (fa ρ).bind fun x => (itemsD x).bind fun xs => (fr ρ).map (xs ++ ·)
variable {fr : En → Option (List PyData)}
theorem ar_nil : PAr X [] fNil := pa_con pa_nil fun σ H Q ⟨G, ρ, o, R, e, q⟩ => by cases e; exact q _ G H (.refl R.sub) .nil
theorem ar_cons (ha : PD X e fa) (hr : PAr X es fr) (hs : starEach (e :: es) X.env = (false, eval e X.env) :: starEach es X.env := by rfl) : PAr X (e :: es) (fCons fa fr) := pa_con (pa_cons ha hr hs) fun σ H Q ⟨G, ρ, o, R, e, q⟩ => by
  obtain ⟨d, e1, e⟩ := Option.bind_eq_some_iff.mp e
  obtain ⟨ds, e2, rfl⟩ := Option.map_eq_some_iff.mp e
  exact ⟨G, ρ, d, R, e1, fun v G1 H1 x1 r1 => ⟨G1, ρ, ds, R.ext x1, e2, fun vs G2 H2 x2 r2 => q _ G2 H2 (x1.trans x2) (.cons (r1.mono x2.gg) r2)⟩⟩
theorem items_v {K : PySem.W.Frag} {G H : Hp} {v : V} {d : PyData} {xs : List PyData} (s : Same G H) (h : Dt K G H v d) (e : itemsD d = some xs) : ∃ p vs, v = .ref p ∧ (SqT K H p vs ∨ SqL K H p vs) ∧ DqAll K G vs xs := by
  unfold itemsD at e
  split at e
  · cases e; obtain ⟨a, vs, rfl, h1, h2⟩ := h.lst_ s; exact ⟨a, vs, rfl, .inr (.of h1), h2⟩
  · cases e; obtain ⟨a, vs, rfl, h1, _, h2⟩ := h.tup_ s; exact ⟨a, vs, rfl, .inl h1, h2⟩
  · cases e
theorem ar_star {p} (ha : PTp X e fa) (hr : PAr X es fr) (hs : starEach (.Starred e p :: es) X.env = (true, eval e X.env) :: starEach es X.env := by rfl) : PAr X (.Starred e p :: es) (fStar fa fr) := pa_con (StX.pa_star ha hr hs) fun σ H Q ⟨G, ρ, o, R, e, q⟩ => by
  obtain ⟨d, e1, e⟩ := Option.bind_eq_some_iff.mp e
  obtain ⟨xs, e3, e⟩ := Option.bind_eq_some_iff.mp e
  obtain ⟨ds, e2, rfl⟩ := Option.map_eq_some_iff.mp e
  refine ⟨G, ρ, d, R, e1, fun v G1 H1 x1 r1 => ?_⟩
  obtain ⟨p, vs, rfl, h1, h2⟩ := items_v x1.gh r1 e3
  exact ⟨p, vs, rfl, h1, G1, ρ, ds, R.ext x1, e2, fun us G2 H2 x2 r2 => q _ G2 H2 (x1.trans x2) ((h2.mono x2.gg).app r2)⟩
def tupD (ds : List PyData) : Option PyData := if ds.length ≤ most then some (.tuple ds) else none
def lstS (ds : List PyData) : Option Sl := if ds.length ≤ most then some (.l ds) else none
theorem pd_tup {x1} (h : PAr X es fr) : PD X (.Tuple es x1 pos) (f1 tupD fr) := pe_con (pe_tup h) fun σ H Q ⟨G, ρ, o, R, e, q⟩ => by
  obtain ⟨ds, e1, e⟩ := f1_some e
  unfold tupD at e
  split at e
  · next hz =>
    cases e
    refine ⟨G, ρ, ds, R, e1, fun vs G1 H1 x1 r1 => ⟨most_line (by rw [r1.len]; exact hz), fun p hp => ?_⟩⟩
    obtain ⟨k1, k2⟩ := new_tup x1.gh hp r1
    exact q _ _ _ (x1.trans k1) k2
  · cases e
theorem pf_lst (h : PAr X es fr) : PF X (.List es pos) (f1 lstS fr) := pe_con (pe_lst h) fun σ H Q ⟨G, ρ, o, R, e, q⟩ => by
  obtain ⟨ds, e1, e⟩ := f1_some e
  unfold lstS at e
  split at e
  · next hz =>
    cases e
    refine ⟨G, ρ, ds, R, e1, fun vs G1 H1 x1 r1 => ⟨most_line (by rw [r1.len]; exact hz), fun p hp => ?_⟩⟩
    obtain ⟨k1, k2, k3⟩ := new_list x1.gh hp r1
    exact q _ _ _ (x1.trans k1) k2 fun o a z => x1.hh.free (k3 o a z)
  · cases e

/-! ### built-in functions of one value, of two -/
def Rd1 (K : PySem.W.Frag) (r : List V → Hp → VK → Prop) (g : PyData → Option PyData) : Prop :=
  ∀ (G H : Hp) (x : V) (dx d : PyData) (Q : VK), Same G H → Dt K G H x dx → g dx = some d → (∀ v G' H', Ext G H G' H' → Dq K G' v d → Q v H') → r [x] H Q
def Rf1 (K : PySem.W.Frag) (r : List V → Hp → VK → Prop) (g : PyData → Option Sl) : Prop :=
  ∀ (G H : Hp) (x : V) (dx : PyData) (s : Sl) (Q : VK), Same G H → Dt K G H x dx → g dx = some s →
    (∀ v G' H', Ext G H G' H' → DL.SlR K G' H' v s → (s.own = true → ∀ a, v = .ref a → H a = none) → Q v H') → r [x] H Q
def Rd1b (K : PySem.W.Frag) (r : List V → Hp → VK → Prop) (g : PyData → PyData → Option PyData) : Prop :=
  ∀ (G H : Hp) (x y : V) (dx dy d : PyData) (Q : VK), Same G H → Dt K G H x dx → Dt K G H y dy → g dx dy = some d → (∀ v G' H', Ext G H G' H' → Dq K G' v d → Q v H') → r [x, y] H Q
theorem tCB_d {r : List V → Hp → VK → Prop} {g} (hg : Rd1 X.K r g) : ∀ σ H Q, tD X.K (f1 g fa) σ H Q → tCB r (tCons (tT X.K fa) tNil) σ H Q := fun σ H Q ⟨G, ρ, d, R, e, q⟩ => by
  obtain ⟨dx, e1, e2⟩ := f1_some e
  exact ⟨G, ρ, dx, R, e1, fun x G1 H1 x1 r1 => hg G1 H1 x dx d Q x1.gh r1 e2 fun v G' H' x2 r => q v G' H' (x1.trans x2) r⟩
theorem tCB_f {r : List V → Hp → VK → Prop} {g} (hg : Rf1 X.K r g) : ∀ σ H Q, tF X.K (f1 g fa) σ H Q → tCB r (tCons (tT X.K fa) tNil) σ H Q := fun σ H Q ⟨G, ρ, d, R, e, q⟩ => by
  obtain ⟨dx, e1, e2⟩ := f1_some e
  exact ⟨G, ρ, dx, R, e1, fun x G1 H1 x1 r1 => hg G1 H1 x dx d Q x1.gh r1 e2 fun v G' H' x2 r f => q v G' H' (x1.trans x2) r fun o a z => x1.hh.free (f o a z)⟩
theorem tCB_d2 {r : List V → Hp → VK → Prop} {g} (hg : Rd1b X.K r g) : ∀ σ H Q, tD X.K (f2 g fa fb) σ H Q → tCB r (tCons (tT X.K fa) (tCons (tT X.K fb) tNil)) σ H Q := fun σ H Q ⟨G, ρ, d, R, e, q⟩ => by
  obtain ⟨dx, dy, e1, e2, e3⟩ := f2_some e
  exact ⟨G, ρ, dx, R, e1, fun x G1 H1 x1 r1 => ⟨G1, ρ, dy, R.ext x1, e2, fun y G2 H2 x2 r2 => hg G2 H2 x y dx dy d Q x2.gh (r1.ext x2) r2 e3 fun v G' H' x3 r => q v G' H' (x1.trans (x2.trans x3)) r⟩⟩
/-- a built-in function's or type's rule, by data -/
structure CallD (X : Cx) (f : Value) (g : PyData → Option PyData) : Prop where
  ex : ∃ r, CallR X f r ∧ Rd1 X.K r g
structure CallF (X : Cx) (f : Value) (g : PyData → Option Sl) : Prop where
  ex : ∃ r, CallR X f r ∧ Rf1 X.K r g
structure CallD2 (X : Cx) (f : Value) (g : PyData → PyData → Option PyData) : Prop where
  ex : ∃ r, CallR X f r ∧ Rd1b X.K r g
variable {x : Str} {p : Pos} {bid T : String}
theorem pd_callB {g} (h : CallD X (.builtin bid) g) (hg : Gl X x) (hm : X.mg x = none) (hv : bootBuiltins x = some (.builtin bid)) (ha : PTp X a fa) (hn : x ≠ "__name__" := by decide) (hdb : (x == ("__debug__" : Str)) = false := by decide)
    (he : starEach [a] X.env = (false, eval a X.env) :: starEach [] X.env := by rfl) (hpl : (backTo pos (starEach [] X.env)).any (·.1) = false := by rfl) : PD X (.Call (.Name x p) [a] [] pos) (f1 g fa) := by
  obtain ⟨r, hc, hr⟩ := h.ex
  exact pe_con (pe_callB hc hg hm hv (pa_cons ha pa_nil he) hn hdb he hpl) (tCB_d hr)
theorem pf_callB {g} (h : CallF X (.builtin bid) g) (hg : Gl X x) (hm : X.mg x = none) (hv : bootBuiltins x = some (.builtin bid)) (ha : PTp X a fa) (hn : x ≠ "__name__" := by decide) (hdb : (x == ("__debug__" : Str)) = false := by decide)
    (he : starEach [a] X.env = (false, eval a X.env) :: starEach [] X.env := by rfl) (hpl : (backTo pos (starEach [] X.env)).any (·.1) = false := by rfl) : PF X (.Call (.Name x p) [a] [] pos) (f1 g fa) := by
  obtain ⟨r, hc, hr⟩ := h.ex
  exact pe_con (pe_callB hc hg hm hv (pa_cons ha pa_nil he) hn hdb he hpl) (tCB_f hr)
theorem pd_callB2 {g} (h : CallD2 X (.builtin bid) g) (hg : Gl X x) (hm : X.mg x = none) (hv : bootBuiltins x = some (.builtin bid)) (ha : PTp X a fa) (hb : PTp X b fb) (hn : x ≠ "__name__" := by decide) (hdb : (x == ("__debug__" : Str)) = false := by decide)
    (he : starEach [a, b] X.env = (false, eval a X.env) :: starEach [b] X.env := by rfl) (he2 : starEach [b] X.env = (false, eval b X.env) :: starEach [] X.env := by rfl) (hpl : (backTo pos (starEach [b] X.env)).any (·.1) = false := by rfl) : PD X (.Call (.Name x p) [a, b] [] pos) (f2 g fa fb) := by
  obtain ⟨r, hc, hr⟩ := h.ex
  exact pe_con (pe_callB hc hg hm hv (pa_cons ha (pa_cons hb pa_nil he2) he) hn hdb he hpl) (tCB_d2 hr)
theorem pd_callTy {g} (h : CallD X (.type T) g) (hg : Gl X x) (hm : X.mg x = none) (hv : bootBuiltins x = some (.type T)) (ha : PTp X a fa) (hn : x ≠ "__name__" := by decide) (hdb : (x == ("__debug__" : Str)) = false := by decide)
    (he : starEach [a] X.env = (false, eval a X.env) :: starEach [] X.env := by rfl) (hpl : (backTo pos (starEach [] X.env)).any (·.1) = false := by rfl) : PD X (.Call (.Name x p) [a] [] pos) (f1 g fa) := by
  obtain ⟨r, hc, hr⟩ := h.ex
  exact pe_con (pe_callTy hc hg hm hv (pa_cons ha pa_nil he) hn hdb he hpl) (tCB_d hr)
theorem pf_callTy {g} (h : CallF X (.type T) g) (hg : Gl X x) (hm : X.mg x = none) (hv : bootBuiltins x = some (.type T)) (ha : PTp X a fa) (hn : x ≠ "__name__" := by decide) (hdb : (x == ("__debug__" : Str)) = false := by decide)
    (he : starEach [a] X.env = (false, eval a X.env) :: starEach [] X.env := by rfl) (hpl : (backTo pos (starEach [] X.env)).any (·.1) = false := by rfl) : PF X (.Call (.Name x p) [a] [] pos) (f1 g fa) := by
  obtain ⟨r, hc, hr⟩ := h.ex
  exact pe_con (pe_callTy hc hg hm hv (pa_cons ha pa_nil he) hn hdb he hpl) (tCB_f hr)
/-- len -/
def lenD : PyData → Option PyData
  | .list xs => some (.int xs.length)
  | .tuple xs => some (.int xs.length)
  | .str z => if z.length ≤ most then some (.int z.length) else none
  | _ => none
theorem cd_len : CallD X (.builtin "len") lenD := ⟨_, call_len, by
  intro G H x dx d Q sm hx e q
  unfold lenD at e
  split at e
  · cases e
    obtain ⟨a, vs, rfl, h1, h2⟩ := hx.lst_ sm
    refine ⟨_, _, rfl, .inl ⟨_, .of h1, rfl⟩, ?_⟩
    rw [h2.len]; exact q _ G H (.refl sm) (.int _)
  · cases e
    obtain ⟨a, vs, rfl, h1, _, h2⟩ := hx.tup_ sm
    refine ⟨_, _, rfl, .inr ⟨_, h1, rfl⟩, ?_⟩
    rw [h2.len]; exact q _ G H (.refl sm) (.int _)
  · split at e
    · next hz =>
      cases e
      rw [hx.str_]
      exact ⟨_, _, rfl, ⟨most_line hz, rfl⟩, q _ G H (.refl sm) (.int _)⟩
    · cases e
  · cases e⟩
def absD : PyData → Option PyData
  | .int i => some (.int (if i < 0 then -i else i))
  | _ => none
theorem cd_abs : CallD X (.builtin "abs") absD := ⟨_, call_abs, by
  intro G H x dx d Q sm hx e q
  unfold absD at e
  split at e
  · cases e; rw [hx.int_]; exact ⟨_, rfl, q _ G H (.refl sm) (.int _)⟩
  · cases e⟩
def minD2 : PyData → PyData → Option PyData
  | .int i, .int j => some (.int (if j < i then j else i))
  | _, _ => none
def maxD2 : PyData → PyData → Option PyData
  | .int i, .int j => some (.int (if j > i then j else i))
  | _, _ => none
theorem cd_min2 (hc : X.calm = true) : CallD2 X (.builtin "min") minD2 := ⟨_, call_min2 hc, by
  intro G H x y dx dy d Q sm hx hy e q
  unfold minD2 at e
  split at e
  · cases e; rw [hx.int_, hy.int_]; exact ⟨_, _, rfl, q _ G H (.refl sm) (.int _)⟩
  · cases e⟩
theorem cd_max2 (hc : X.calm = true) : CallD2 X (.builtin "max") maxD2 := ⟨_, call_max2 hc, by
  intro G H x y dx dy d Q sm hx hy e q
  unfold maxD2 at e
  split at e
  · cases e; rw [hx.int_, hy.int_]; exact ⟨_, _, rfl, q _ G H (.refl sm) (.int _)⟩
  · cases e⟩
def gcdD : PyData → PyData → Option PyData
  | .int i, .int j => some (.int ((Nat.gcd i.natAbs j.natAbs : Nat) : Int))
  | _, _ => none
/-- int(x), bool(x) -/
def intD : PyData → Option PyData
  | .int i => some (.int i)
  | .bool b => some (.int (if b then 1 else 0))
  | _ => none
theorem cd_int : CallD X (.type "int") intD := ⟨_, call_int1, by
  intro G H x dx d Q sm hx e q
  unfold intD at e
  split at e
  · cases e; rw [hx.int_]; exact .inl ⟨_, rfl, q _ G H (.refl sm) (.int _)⟩
  · cases e; rw [hx.bl_]; exact .inr ⟨_, rfl, q _ G H (.refl sm) (.int _)⟩
  · cases e⟩
/-- the ints of a list, the bools -/
def intsD : List PyData → Option (List Int)
  | [] => some []
  | .int i :: r => (intsD r).map (i :: ·)
  | _ => none
def bolsD : List PyData → Option (List Bool)
  | [] => some []
  | .bool i :: r => (bolsD r).map (i :: ·)
  | _ => none
theorem intsD_eq : ∀ {ds : List PyData} {ns : List Int}, intsD ds = some ns → ds = ns.map PyData.int
  | [], _, e => by cases e; rfl
  | .int i :: r, _, e => by
    obtain ⟨ns, e1, rfl⟩ := Option.map_eq_some_iff.mp e
    rw [intsD_eq e1] <;> rfl
  | .none :: _, _, e => by cases e
  | .bool _ :: _, _, e => by cases e
  | .str _ :: _, _, e => by cases e
  | .list _ :: _, _, e => by cases e
  | .tuple _ :: _, _, e => by cases e
  | .dict _ :: _, _, e => by cases e
theorem intsD_map : ∀ ns : List Int, intsD (ns.map PyData.int) = some ns
  | [] => rfl
  | i :: r => by show (intsD (r.map PyData.int)).map (i :: ·) = _; rw [intsD_map r] <;> rfl
theorem bolsD_eq : ∀ {ds : List PyData} {ns : List Bool}, bolsD ds = some ns → ds = ns.map PyData.bool
  | [], _, e => by cases e; rfl
  | .bool i :: r, _, e => by
    obtain ⟨ns, e1, rfl⟩ := Option.map_eq_some_iff.mp e
    rw [bolsD_eq e1] <;> rfl
  | .none :: _, _, e => by cases e
  | .int _ :: _, _, e => by cases e
  | .str _ :: _, _, e => by cases e
  | .list _ :: _, _, e => by cases e
  | .tuple _ :: _, _, e => by cases e
  | .dict _ :: _, _, e => by cases e
theorem bolsD_map : ∀ ns : List Bool, bolsD (ns.map PyData.bool) = some ns
  | [] => rfl
  | i :: r => by show (bolsD (r.map PyData.bool)).map (i :: ·) = _; rw [bolsD_map r] <;> rfl
theorem dq_ints {K : PySem.W.Frag} {G : Hp} : ∀ {vs : List V} {ns : List Int}, DqAll K G vs (ns.map PyData.int) → vs = ns.map V.int
  | _, [], h => by cases h; rfl
  | _, n :: r, h => by
    cases h with
    | cons h t => cases h; rw [dq_ints t] <;> rfl
theorem dq_bols {K : PySem.W.Frag} {G : Hp} : ∀ {vs : List V} {ns : List Bool}, DqAll K G vs (ns.map PyData.bool) → vs = ns.map V.bl
  | _, [], h => by cases h; rfl
  | _, n :: r, h => by
    cases h with
    | cons h t => cases h; rw [dq_bols t] <;> rfl
theorem ints_dq {K : PySem.W.Frag} {G : Hp} : ∀ ns : List Int, DqAll K G (ns.map V.int) (ns.map PyData.int)
  | [] => .nil
  | n :: r => .cons (.int n) (ints_dq r)
/-- a list of ints that is read -/
theorem dt_ints {K : PySem.W.Frag} {G H : Hp} {v : V} {d : PyData} {ns : List Int} (s : Same G H) (h : Dt K G H v d) (e : d = .list (ns.map PyData.int)) : ∃ a, v = .ref a ∧ SqL K H a (ns.map V.int) := by
  subst e
  obtain ⟨a, vs, rfl, h1, h2⟩ := h.lst_ s
  rw [dq_ints h2] at h1
  exact ⟨a, rfl, .of h1⟩
def sumD : PyData → Option PyData
  | .list ds => (intsD ds).map fun ns => .int ns.sum
  | _ => none
theorem cd_sum (hc : X.calm = true) : CallD X (.builtin "sum") sumD := ⟨_, cr_sum hc, by
  intro G H x dx d Q sm hx e q
  unfold sumD at e
  split at e
  · obtain ⟨ns, e1, rfl⟩ := Option.map_eq_some_iff.mp e
    obtain ⟨a, rfl, h1⟩ := dt_ints sm hx (by rw [intsD_eq e1])
    exact ⟨a, ns, rfl, h1, q _ G H (.refl sm) (.int _)⟩
  · cases e⟩
def minI : List Int → Option Int
  | [] => none
  | n :: r => some (r.foldl (fun m k => if k < m then k else m) n)
def maxI : List Int → Option Int
  | [] => none
  | n :: r => some (r.foldl (fun m k => if m < k then k else m) n)
theorem minI_is : ∀ (r : List Int) (n : Int), (r.foldl (fun m k => if k < m then k else m) n) ∈ n :: r ∧ ∀ y ∈ n :: r, (r.foldl (fun m k => if k < m then k else m) n) ≤ y
  | [], n => by simp
  | k :: r, n => by
    rw [List.foldl_cons]
    by_cases c : k < n
    · rw [if_pos c]
      obtain ⟨h1, h2⟩ := minI_is r k
      refine ⟨List.mem_cons_of_mem _ h1, fun y hy => ?_⟩
      rcases List.mem_cons.mp hy with rfl | hy
      · have := h2 k List.mem_cons_self; omega
      · exact h2 y hy
    · rw [if_neg c]
      obtain ⟨h1, h2⟩ := minI_is r n
      refine ⟨?_, fun y hy => ?_⟩
      · rcases List.mem_cons.mp h1 with h | h
        · rw [h]; exact List.mem_cons_self
        · exact List.mem_cons_of_mem _ (List.mem_cons_of_mem _ h)
      · rcases List.mem_cons.mp hy with rfl | hy
        · exact h2 y List.mem_cons_self
        · rcases List.mem_cons.mp hy with rfl | hy
          · have := h2 n List.mem_cons_self; omega
          · exact h2 y (List.mem_cons_of_mem _ hy)
theorem maxI_is : ∀ (r : List Int) (n : Int), (r.foldl (fun m k => if m < k then k else m) n) ∈ n :: r ∧ ∀ y ∈ n :: r, y ≤ (r.foldl (fun m k => if m < k then k else m) n)
  | [], n => by simp
  | k :: r, n => by
    rw [List.foldl_cons]
    by_cases c : n < k
    · rw [if_pos c]
      obtain ⟨h1, h2⟩ := maxI_is r k
      refine ⟨List.mem_cons_of_mem _ h1, fun y hy => ?_⟩
      rcases List.mem_cons.mp hy with rfl | hy
      · have := h2 k List.mem_cons_self; omega
      · exact h2 y hy
    · rw [if_neg c]
      obtain ⟨h1, h2⟩ := maxI_is r n
      refine ⟨?_, fun y hy => ?_⟩
      · rcases List.mem_cons.mp h1 with h | h
        · rw [h]; exact List.mem_cons_self
        · exact List.mem_cons_of_mem _ (List.mem_cons_of_mem _ h)
      · rcases List.mem_cons.mp hy with rfl | hy
        · exact h2 y List.mem_cons_self
        · rcases List.mem_cons.mp hy with rfl | hy
          · have := h2 n List.mem_cons_self; omega
          · exact h2 y (List.mem_cons_of_mem _ hy)
def minD : PyData → Option PyData
  | .list ds => (intsD ds).bind fun ns => (minI ns).map .int
  | _ => none
def maxD : PyData → Option PyData
  | .list ds => (intsD ds).bind fun ns => (maxI ns).map .int
  | _ => none
theorem cd_min (hc : X.calm = true) : CallD X (.builtin "min") minD := ⟨_, cr_min hc, by
  intro G H x dx d Q sm hx e q
  unfold minD at e
  split at e
  · obtain ⟨ns, e1, e2⟩ := Option.bind_eq_some_iff.mp e
    obtain ⟨m, e3, rfl⟩ := Option.map_eq_some_iff.mp e2
    obtain ⟨a, rfl, h1⟩ := dt_ints sm hx (by rw [intsD_eq e1])
    cases ns with
    | nil => cases e3
    | cons n r =>
      cases e3
      refine ⟨a, n :: r, rfl, h1, Nat.succ_pos _, fun m h2 h3 => ?_⟩
      obtain ⟨k1, k2⟩ := minI_is r n
      have e : m = r.foldl (fun m k => if k < m then k else m) n := by have := h3 _ k1; have := k2 _ h2; omega
      rw [e]; exact q _ G H (.refl sm) (.int _)
  · cases e⟩
theorem cd_max (hc : X.calm = true) : CallD X (.builtin "max") maxD := ⟨_, cr_max hc, by
  intro G H x dx d Q sm hx e q
  unfold maxD at e
  split at e
  · obtain ⟨ns, e1, e2⟩ := Option.bind_eq_some_iff.mp e
    obtain ⟨m, e3, rfl⟩ := Option.map_eq_some_iff.mp e2
    obtain ⟨a, rfl, h1⟩ := dt_ints sm hx (by rw [intsD_eq e1])
    cases ns with
    | nil => cases e3
    | cons n r =>
      cases e3
      refine ⟨a, n :: r, rfl, h1, Nat.succ_pos _, fun m h2 h3 => ?_⟩
      obtain ⟨k1, k2⟩ := maxI_is r n
      have e : m = r.foldl (fun m k => if m < k then k else m) n := by have := h3 _ k1; have := k2 _ h2; omega
      rw [e]; exact q _ G H (.refl sm) (.int _)
  · cases e⟩
theorem dt_bols {K : PySem.W.Frag} {G H : Hp} {v : V} {d : PyData} {ns : List Bool} (s : Same G H) (h : Dt K G H v d) (e : d = .list (ns.map PyData.bool)) : ∃ a, v = .ref a ∧ SqL K H a (ns.map V.bl) := by
  subst e
  obtain ⟨a, vs, rfl, h1, h2⟩ := h.lst_ s
  rw [dq_bols h2] at h1
  exact ⟨a, rfl, .of h1⟩
def anyD : PyData → Option PyData
  | .list ds => (bolsD ds).map fun ns => .bool (ns.any id)
  | _ => none
def allD : PyData → Option PyData
  | .list ds => (bolsD ds).map fun ns => .bool (ns.all id)
  | _ => none
theorem cd_any (hc : X.calm = true) : CallD X (.builtin "any") anyD := ⟨_, cr_any hc, by
  intro G H x dx d Q sm hx e q
  unfold anyD at e
  split at e
  · obtain ⟨ns, e1, rfl⟩ := Option.map_eq_some_iff.mp e
    obtain ⟨a, rfl, h1⟩ := dt_bols sm hx (by rw [bolsD_eq e1])
    exact ⟨a, ns, rfl, h1, q _ G H (.refl sm) (.bl _)⟩
  · cases e⟩
theorem cd_all (hc : X.calm = true) : CallD X (.builtin "all") allD := ⟨_, cr_all hc, by
  intro G H x dx d Q sm hx e q
  unfold allD at e
  split at e
  · obtain ⟨ns, e1, rfl⟩ := Option.map_eq_some_iff.mp e
    obtain ⟨a, rfl, h1⟩ := dt_bols sm hx (by rw [bolsD_eq e1])
    exact ⟨a, ns, rfl, h1, q _ G H (.refl sm) (.bl _)⟩
  · cases e⟩
/-- list(x), tuple(x) -/
def listS (d : PyData) : Option Sl := (itemsD d).map .l
def tupleD (d : PyData) : Option PyData := (itemsD d).map .tuple
theorem cf_list : CallF X (.type "list") listS := ⟨_, call_list_of, by
  intro G H x dx s Q sm hx e q
  obtain ⟨xs, e1, rfl⟩ := Option.map_eq_some_iff.mp e
  obtain ⟨p, vs, rfl, h1, h2⟩ := items_v sm hx e1
  refine ⟨p, vs, rfl, h1.symm, fun l hl => ?_⟩
  obtain ⟨k1, k2, k3⟩ := new_list sm hl h2
  exact q _ _ _ k1 k2 k3⟩
theorem cd_tuple : CallD X (.type "tuple") tupleD := ⟨_, call_tuple_of, by
  intro G H x dx s Q sm hx e q
  obtain ⟨xs, e1, rfl⟩ := Option.map_eq_some_iff.mp e
  unfold itemsD at e1
  split at e1
  · cases e1
    obtain ⟨a, vs, rfl, h1, h2⟩ := hx.lst_ sm
    refine ⟨a, vs, rfl, .inl ⟨.of h1, fun l hl => ?_⟩⟩
    obtain ⟨k1, k2⟩ := new_tup sm hl h2
    exact q _ _ _ k1 k2
  · cases e1
    obtain ⟨a, vs, rfl, h1, h1', h2⟩ := hx.tup_ sm
    exact ⟨a, vs, rfl, .inr ⟨h1, q _ G H (.refl sm) (.tup h1' h2)⟩⟩
  · cases e1⟩
/-! ### sorted(x), of data that can be compared -/
def alikesB (ds : List PyData) : Bool := ds.all fun d => ds.all fun d' => PySem.W.alike d d'
def sortB (ds : List PyData) : Bool := (ds.all fun d => match d with | .tuple (_ :: _) => true | _ => false) || (ds.all fun d => match d with | .none => false | .tuple _ => false | _ => true)
theorem alikesB_of {ds : List PyData} (h : alikesB ds = true) : PySem.W.AllAlike ds := fun d hd d' hd' => by
  unfold alikesB at h
  rw [List.all_eq_true] at h
  exact List.all_eq_true.mp (h d hd) d' hd'
theorem sortB_of {ds : List PyData} (h : sortB ds = true) : PySem.W.Sortable ds := by
  unfold sortB at h
  rw [Bool.or_eq_true, List.all_eq_true, List.all_eq_true] at h
  rcases h with h | h
  · refine .inl fun d hd => ?_
    have := h d hd
    split at this
    · exact ⟨_, _, rfl⟩
    · cases this
  · refine .inr fun d hd => ?_
    have := h d hd
    split at this
    · cases this
    · cases this
    · next h1 h2 => exact ⟨h1, h2⟩
def sortL (ds : List PyData) : List PyData := ds.mergeSort (PySem.W.dataLe false id)
def sortedS : PyData → Option Sl
  | .list ds => if okD 60 (.list ds) && (alikesB ds && sortB ds) then some (.l (sortL ds)) else none
  | _ => none
def rSortD (K : PySem.W.Frag) : List V → Hp → VK → Prop := fun vs H Q => ∃ (a : Addr) (xs : List V) (ds : List PyData), vs = [V.ref a] ∧ SqL K H a xs ∧ DpAll K H xs ds ∧ okAll 59 ds = true ∧ alikesB ds = true ∧ sortB ds = true ∧
  ∀ (ys : List V) (p : Addr), PySem.W.EachIs (fun y d => ∃ i : Nat, xs[i]? = some y ∧ ds[i]? = some d) ys (sortL ds) → H p = none → Q (.ref p) (upd H p (.lst ys))
theorem each_of_reads {R : Value → PyData → Prop} : ∀ {vs : List Value} {ds : List PyData}, vs.length = ds.length → (∀ (i : Nat) v d, vs[i]? = some v → ds[i]? = some d → R v d) → PySem.W.EachIs R vs ds
  | [], [], _, _ => .nil
  | [], _ :: _, h, _ => by cases h
  | _ :: _, [], h, _ => by cases h
  | v :: vs, d :: ds, h, k => .cons (k 0 v d rfl rfl) (each_of_reads (Nat.succ.inj h) fun i v d h1 h2 => k (i + 1) v d (by simpa using h1) (by simpa using h2))
theorem dpAll_len {K : PySem.W.Frag} {H : Hp} : ∀ {xs : List V} {ds : List PyData}, DpAll K H xs ds → xs.length = ds.length
  | _, _, .nil => rfl
  | _, _, .cons _ t => by simp [dpAll_len t]
theorem dpAll_at {K : PySem.W.Frag} {H : Hp} : ∀ {xs : List V} {ds : List PyData} {i : Nat} {d : PyData}, DpAll K H xs ds → ds[i]? = some d → ∃ x, xs[i]? = some x ∧ Dp K H x d
  | _, _, _, _, .nil, e => by simp at e
  | _, _, 0, _, .cons h _, e => by simp at e; subst e; exact ⟨_, rfl, h⟩
  | _, _, i + 1, d, .cons _ t, e => by
    obtain ⟨v, h1, h2⟩ := dpAll_at (i := i) (d := d) t (by simpa using e)
    exact ⟨v, by simpa using h1, h2⟩
theorem okAll_mem : ∀ {ds : List PyData} {n : Nat}, okAll n ds = true → ∀ d ∈ ds, okD n d = true
  | [], _, _, d, h => by cases h
  | x :: xs, n, e, d, h => by
    rw [okAll, Bool.and_eq_true] at e
    rcases List.mem_cons.mp h with rfl | h
    · exact e.1
    · exact okAll_mem e.2 d h
theorem cr_sortD (hr : Room k X.A) : CallR X (.builtin "sorted") (rSortD X.K) := by
  intro pins s σ H vs us Q I r h
  obtain ⟨a, xs, ds, rfl, hs, hd, ok, hal, hso, q⟩ := h
  obtain ⟨its, rv, hl, hz⟩ := I.list hs
  rw [Vals.ref1 r]
  have hlen : its.length = ds.length := by rw [← rv.length]; exact (dpAll_len hd)
  have reads : ∀ (i : Nat) u d, its[i]? = some u → ds[i]? = some d → ∃ as, Reads s.heap u d as := fun i u d h1 h2 => by
    obtain ⟨x, e1, e2⟩ := dpAll_at hd h2
    obtain ⟨u', e3, e4⟩ := rv.get e1
    rw [h1] at e3; cases e3
    exact Dp.reads I d x u e2 e4
  have e0 : PySem.W.EachIs (fun u d => ∃ (i : Nat) (x : V), xs[i]? = some x ∧ ds[i]? = some d ∧ RelV x u) its ds := each_of_reads hlen fun i u d h1 h2 => by
    obtain ⟨x, e1, e2⟩ := dpAll_at hd h2
    obtain ⟨u', e3, e4⟩ := rv.get e1
    rw [h1] at e3; cases e3
    exact ⟨i, x, e1, h2, e4⟩
  have er : PySem.W.EachIs (fun u d => ∃ as, Reads s.heap u (id d) as) its ds := each_of_reads hlen reads
  refine PySem.W.sorted_data (enc := id) hl.isList e0 er (by rw [List.map_id]; exact alikesB_of hal) (by rw [List.map_id]; exact sortB_of hso) (by rw [← (dpAll_len hd)]; exact hz) (fun d hm => ?_) fun out ho eo => ?_
  · have := okD_depth d _ (okAll_mem ok d hm)
    have := hr.un
    show X.A.units + 2 + d.depth < cLine
    omega
  · have key : ∀ {us : List Value} {ds' : List PyData}, PySem.W.EachIs (fun u d => ∃ (i : Nat) (x : V), xs[i]? = some x ∧ ds[i]? = some d ∧ RelV x u) us ds' →
        ∃ ys, Vals ys us ∧ PySem.W.EachIs (fun y d => ∃ i : Nat, xs[i]? = some y ∧ ds[i]? = some d) ys ds' := by
      intro us ds' h
      induction h with
      | nil => exact ⟨[], .nil, .nil⟩
      | cons h _ ih =>
        obtain ⟨i, x, h1, h2, h3⟩ := h
        obtain ⟨ys, k1, k2⟩ := ih
        exact ⟨x :: ys, .cons h3 k1, .cons ⟨i, h1, h2⟩ k2⟩
    obtain ⟨ys, k1, k2⟩ := key eo
    obtain ⟨ep, he'⟩ := PyProof.Rows.sortedAll_at s.heap its out.toArray
    have hys : ys.length ≤ sizeLine := by rw [k1.length, ho, ← (dpAll_len hd)]; exact hz
    exact ⟨.ref _, upd H (s.heap.objs.size + 1) (.lst ys), I.laid (t' := s.toks) (fun _ _ => PyProof.Rows.sortedAll_old) (Nat.le_succ _) ⟨hys, out, ep, k1, he'⟩, rfl, q ys _ k2 (I.hok.fresh (Nat.le_succ _))⟩
theorem cf_sorted (hr : Room k X.A) : CallF X (.builtin "sorted") sortedS := ⟨_, cr_sortD hr, by
  intro G H x dx s Q sm hx e q
  unfold sortedS at e
  split at e
  · next ds =>
    split at e
    · next h =>
      cases e
      rw [Bool.and_eq_true, Bool.and_eq_true] at h
      obtain ⟨h0, h1, h2⟩ := h
      rw [okD] at h0
      obtain ⟨a, xs, rfl, k1, k2⟩ := hx.lst_ sm
      refine ⟨a, xs, _, rfl, .of k1, DqAll.dp _ _ (k2.mono sm) (okAll_flat _ _ h0), h0, h1, h2, fun ys p hy hp => ?_⟩
      have key : ∀ {ys : List V} {es : List PyData}, PySem.W.EachIs (fun y d => ∃ i : Nat, xs[i]? = some y ∧ ds[i]? = some d) ys es → DqAll X.K G ys es := by
        intro ys es h
        induction h with
        | nil => exact .nil
        | cons h _ ih =>
          obtain ⟨i, e1, e2⟩ := h
          obtain ⟨v, e3, e4⟩ := k2.get e2
          rw [e1] at e3; cases e3
          exact .cons e4 ih
      obtain ⟨m1, m2, m3⟩ := new_list sm hp (key hy)
      exact q _ _ _ m1 m2 m3
    · cases e
  · cases e⟩
end
end DL

set_option Elab.async false
set_option linter.all false
set_option maxRecDepth 100000
/-! The D layer, 5: targets, statements, loops, comprehensions, defs. -/
namespace DL
open PySem PySem.Spec PyProof.Rows L2

/-! ### a slot is stored -/
theorem st_set_get {σ : St} {i j : Nat} {v : V} {x : Option V} (h : (σ.set i (some v))[j]? = some x) : (j = i ∧ x = some v) ∨ (j ≠ i ∧ σ[j]? = some x) := by
  rw [List.getElem?_set] at h
  split at h
  · next e =>
    split at h
    · cases h; exact .inl ⟨e.symm, rfl⟩
    · cases h
  · next e => exact .inr ⟨fun z => e z.symm, h⟩
theorem en_set_get {ρ : En} {i j : Nat} {t : Sl} {x : Option Sl} (h : (ρ.set i (some t))[j]? = some x) : (j = i ∧ i < ρ.length ∧ x = some t) ∨ (j ≠ i ∧ ρ[j]? = some x) := by
  rw [List.getElem?_set] at h
  split at h
  · next e =>
    split at h
    · next hl => cases h; exact .inl ⟨e.symm, hl, rfl⟩
    · cases h
  · next e => exact .inr ⟨fun z => e z.symm, h⟩
theorem st_set_ne {σ : St} {i j : Nat} {v : V} (h : j ≠ i) : (σ.set i (some v))[j]? = σ[j]? := List.getElem?_set_ne (fun z => h z.symm)
section
variable {K : PySem.W.Frag} {G H G0 H0 : Hp} {σ : St} {ρ : En}
/-- σ', ρ' come from σ, ρ by stores of clean data: what is own was so before -/
def Kept (σ : St) (ρ : En) (σ' : St) (ρ' : En) : Prop := ∀ (j : Nat) (s : Sl), ρ'[j]? = some (some s) → s.own = true → ρ[j]? = some (some s) ∧ σ'[j]? = σ[j]?
theorem Kept.refl : Kept σ ρ σ ρ := fun _ _ h _ => ⟨h, rfl⟩
theorem Kept.trans {σ1 σ2 : St} {ρ1 ρ2 : En} (a : Kept σ ρ σ1 ρ1) (b : Kept σ1 ρ1 σ2 ρ2) : Kept σ ρ σ2 ρ2 := fun j s h o =>
  let ⟨h1, h2⟩ := b j s h o; let ⟨h3, h4⟩ := a j s h1 o; ⟨h3, h2.trans h4⟩
theorem Rx.set_any (R : Rx K G H σ ρ) (i : Nat) {v : V} {t : Sl} (hv : SlR K G H v t) (fr : t.own = true → ∀ a, v = .ref a → ∀ j s, j ≠ i → ρ[j]? = some (some s) → s.own = true → σ[j]? ≠ some (some (.ref a))) :
    Rx K G H (σ.set i (some v)) (ρ.set i (some t)) := by
  refine ⟨R.sub, by simp [R.len], fun j s h => ?_, fun j1 j2 s1 s2 a h1 h2 o1 o2 k1 k2 => ?_⟩
  · rcases en_set_get h with ⟨e, hl, e2⟩ | ⟨hne, h⟩
    · cases e2; subst e
      exact ⟨v, List.getElem?_set_self (by rw [R.len]; exact hl), hv⟩
    · obtain ⟨w, w1, w2⟩ := R.at_ j s h
      exact ⟨w, by rw [st_set_ne hne]; exact w1, w2⟩
  · rcases en_set_get h1 with ⟨e1, l1, z1⟩ | ⟨n1, h1⟩
    · rcases en_set_get h2 with ⟨e2, _, z2⟩ | ⟨n2, h2⟩
      · rw [e1, e2]
      · cases z1
        rw [e1, List.getElem?_set_self (by rw [R.len]; exact l1)] at k1
        cases k1
        rw [st_set_ne n2] at k2
        exact absurd k2 (fr o1 a rfl j2 s2 n2 h2 o2)
    · rcases en_set_get h2 with ⟨e2, l2, z2⟩ | ⟨n2, h2⟩
      · cases z2
        rw [e2, List.getElem?_set_self (by rw [R.len]; exact l2)] at k2
        cases k2
        rw [st_set_ne n1] at k1
        exact absurd k1 (fr o2 a rfl j1 s1 n1 h1 o1)
      · rw [st_set_ne n1] at k1
        rw [st_set_ne n2] at k2
        exact R.apart j1 j2 s1 s2 a h1 h2 o1 o2 k1 k2
theorem Rx.set (R : Rx K G H σ ρ) (i : Nat) {v : V} {d : PyData} (hv : Dq K G v d) : Rx K G H (σ.set i (some v)) (ρ.set i (some (.p d))) ∧ Kept σ ρ (σ.set i (some v)) (ρ.set i (some (.p d))) := by
  refine ⟨R.set_any i (.p hv) fun z => (nomatch z), fun j s h o => ?_⟩
  rcases en_set_get h with ⟨e, _, e2⟩ | ⟨hne, h⟩
  · cases e2; cases o
  · exact ⟨h, st_set_ne hne⟩
/-- fewer slots are told -/
theorem Rx.weak {σ' : St} {ρ' : En} (R : Rx K G H σ ρ) (hl : σ'.length = ρ'.length) (h : ∀ (j : Nat) (s : Sl), ρ'[j]? = some (some s) → ρ[j]? = some (some s) ∧ σ'[j]? = σ[j]?) : Rx K G H σ' ρ' :=
  ⟨R.sub, hl, fun j s e => let ⟨h1, h2⟩ := h j s e; let ⟨v, k1, k2⟩ := R.at_ j s h1; ⟨v, by rw [h2]; exact k1, k2⟩, fun i j s t a h1 h2 o1 o2 k1 k2 => by
    obtain ⟨e1, f1⟩ := h i s h1
    obtain ⟨e2, f2⟩ := h j t h2
    rw [f1] at k1; rw [f2] at k2
    exact R.apart i j s t a e1 e2 o1 o2 k1 k2⟩
/-- the slots of a frame over a base -/
structure Rp (K : PySem.W.Frag) (G0 H0 G H : Hp) (σ : St) (ρ : En) : Prop where
  rx : Rx K G H σ ρ
  ext : Ext G0 H0 G H
  own : ∀ (i : Nat) (s : Sl) (a : Addr), ρ[i]? = some (some s) → s.own = true → σ[i]? = some (some (.ref a)) → H0 a = none
theorem Rp.grow {G' H' : Hp} (R : Rp K G0 H0 G H σ ρ) (x : Ext G H G' H') : Rp K G0 H0 G' H' σ ρ := ⟨R.rx.ext x, R.ext.trans x, R.own⟩
theorem Rp.kept {σ' : St} {ρ' : En} (R : Rp K G0 H0 G H σ ρ) (r : Rx K G H σ' ρ') (k : Kept σ ρ σ' ρ') : Rp K G0 H0 G H σ' ρ' :=
  ⟨r, R.ext, fun i s a h o e => let ⟨h1, h2⟩ := k i s h o; R.own i s a h1 o (by rw [← h2]; exact e)⟩
theorem Rp.weak {ρ' : En} (R : Rp K G0 H0 G H σ ρ) (hl : ρ'.length = ρ.length) (h : ∀ (j : Nat) (s : Sl), ρ'[j]? = some (some s) → ρ[j]? = some (some s)) : Rp K G0 H0 G H σ ρ' :=
  ⟨R.rx.weak (by rw [hl]; exact R.rx.len) fun j s e => ⟨h j s e, rfl⟩, R.ext, fun i s a e o q => R.own i s a (h i s e) o q⟩
/-- a later base: what is clean now stays -/
theorem Rp.up (R : Rp K G0 H0 G H σ ρ) : Rp K G H0 G H σ ρ := ⟨R.rx, ⟨.refl _, R.ext.hh, R.ext.gh, fun _ _ h => h⟩, R.own⟩
theorem Rp.down {G1 G' H' : Hp} {σ' : St} {ρ' : En} (x : Ext G0 H0 G1 H) (R : Rp K G1 H0 G' H' σ' ρ') : Rp K G0 H0 G' H' σ' ρ' :=
  ⟨R.rx, ⟨x.gg.trans R.ext.gg, R.ext.hh, R.ext.gh, fun b h1 h2 => R.ext.hid b h1 (x.hid b h1 h2)⟩, R.own⟩
theorem ext_down {G1 G' H' : Hp} (x : Ext G0 H0 G1 H) (R : Ext G1 H0 G' H') : Ext G0 H0 G' H' := ⟨x.gg.trans R.gg, R.hh, R.gh, fun b h1 h2 => R.hid b h1 (x.hid b h1 h2)⟩
end

/-! ### targets -/
inductive Pat where
  | n (i : Nat) | t (ps : List Pat)
mutual
def Pat.slots : Pat → List Nat
  | .n i => [i]
  | .t ps => patSlots ps
def patSlots : List Pat → List Nat
  | [] => []
  | p :: ps => p.slots ++ patSlots ps
end
mutual
def pm : Pat → PyData → En → Option En
  | .n i, d, ρ => some (ρ.set i (some (.p d)))
  | .t ps, .tuple ds, ρ => pms ps ds ρ
  | .t _, _, _ => none
def pms : List Pat → List PyData → En → Option En
  | [], [], ρ => some ρ
  | p :: ps, d :: ds, ρ => (pm p d ρ).bind fun ρ1 => pms ps ds ρ1
  | _, _, _ => none
end
def gP (K : PySem.W.Frag) (p : Pat) : TG := fun v σ H Q => ∃ G ρ d ρ', Rx K G H σ ρ ∧ Dq K G v d ∧ pm p d ρ = some ρ' ∧ ∀ σ', Rx K G H σ' ρ' → Kept σ ρ σ' ρ' → (∀ vs : List Nat, (∀ i ∈ p.slots, i ∈ vs) → wipe σ' vs = wipe σ vs) → Q σ' H
def gPs (K : PySem.W.Frag) (ps : List Pat) : TGs := fun vs σ H Q => ∃ G ρ ds ρ', Rx K G H σ ρ ∧ DqAll K G vs ds ∧ pms ps ds ρ = some ρ' ∧ ∀ σ', Rx K G H σ' ρ' → Kept σ ρ σ' ρ' → (∀ vs : List Nat, (∀ i ∈ patSlots ps, i ∈ vs) → wipe σ' vs = wipe σ vs) → Q σ' H
theorem set_comm' {α : Type} {l : List α} {i j : Nat} {a b : α} (h : i ≠ j) : (l.set i a).set j b = (l.set j b).set i a := List.set_comm a b h
theorem wipe_set {σ : St} {v : Option V} {i : Nat} : ∀ {vs : List Nat}, i ∈ vs → wipe (σ.set i v) vs = wipe σ vs
  | [], h => by cases h
  | j :: vs, h => by
    unfold wipe
    by_cases e : i ∈ vs
    · rw [wipe_set e]
    · have z : i = j := by
        rcases List.mem_cons.mp h with h | h
        · exact h
        · exact absurd h e
      subst z
      have k : ∀ (vs : List Nat) (σ : St), i ∉ vs → wipe (σ.set i v) vs = (wipe σ vs).set i v := by
        intro vs
        induction vs with
        | nil => intro σ _; rfl
        | cons j vs ih =>
          intro σ hn
          unfold wipe
          rw [ih σ (fun z => hn (List.mem_cons_of_mem _ z)), List.set_comm]
          exact fun z => hn (by rw [z]; exact List.mem_cons_self)
      rw [k vs σ e, List.set_set]
section
variable {X : Cx} {tg : Expr} {tgs : List Expr} {t : TG}
theorem pg_con {t t' : TG} (h : PG X tg t) (i : ∀ v σ H Q, t' v σ H Q → t v σ H Q) : PG X tg t' := ⟨fun pins s σ H v u Q I r q => h.run pins s σ H v u Q I r (i _ _ _ _ q)⟩
theorem pgs_con {t t' : TGs} (h : PGs X tgs t) (i : ∀ v σ H Q, t' v σ H Q → t v σ H Q) : PGs X tgs t' := ⟨fun pins s σ H v u Q I r q => h.run pins s σ H v u Q I r (i _ _ _ _ q)⟩
theorem pt_name {i : Nat} {x : Str} {pos : Pos} (hN : X.N.Nodup) (hi : X.N[i]? = some x) (hx : Loc X.env.scope x) (hf : X.fn x = true ∨ X.env.scope.names.lookup x = some .local := by first | exact .inl rfl | exact .inr rfl) : PG X (.Name x pos) (gP X.K (.n i)) :=
  pg_con (pg_name hN hi hx hf) fun v σ H Q ⟨G, ρ, d, ρ', R, hd, e, q⟩ => by
    rw [pm] at e; cases e
    obtain ⟨r, k⟩ := R.set i hd
    exact q _ r k fun vs hs => wipe_set (hs i (by rw [Pat.slots]; exact List.mem_cons_self))
theorem pts_nilP : PGs X [] (gPs X.K []) := pgs_con pgs_nil fun v σ H Q ⟨G, ρ, ds, ρ', R, hd, e, q⟩ => by
  cases ds with
  | nil =>
    rw [pms] at e; cases e
    cases hd
    exact ⟨rfl, q σ R .refl fun _ _ => rfl⟩
  | cons d ds => rw [pms] at e <;> first | cases e | (intros; simp)
theorem pts_consP {p : Pat} {ps : List Pat} {e : Expr} {es : List Expr} (h1 : PG X e (gP X.K p)) (h2 : PGs X es (gPs X.K ps))
    (hs : (assignEach (e :: es) X.env).map (·.2) = assign e X.env :: (assignEach es X.env).map (·.2) := by rfl) : PGs X (e :: es) (gPs X.K (p :: ps)) := pgs_con (pgs_cons h1 h2 hs) fun v σ H Q ⟨G, ρ, ds, ρ', R, hd, e, q⟩ => by
  cases hd with
  | nil => rw [pms] at e <;> first | cases e | (intros; simp)
  | @cons v vs d ds hd ht =>
    rw [pms] at e
    obtain ⟨ρ1, e1, e2⟩ := Option.bind_eq_some_iff.mp e
    refine ⟨v, vs, rfl, G, ρ, d, ρ1, R, hd, e1, fun σ1 R1 k1 w1 => ⟨G, ρ1, ds, ρ', R1, ht, e2, fun σ2 R2 k2 w2 => q σ2 R2 (k1.trans k2) fun vs hv => ?_⟩⟩
    rw [w2 vs fun i hi => hv i (by rw [patSlots]; exact List.mem_append_right _ hi), w1 vs fun i hi => hv i (by rw [patSlots]; exact List.mem_append_left _ hi)]
theorem pms_len : ∀ {ps : List Pat} {ds : List PyData} {ρ ρ' : En}, pms ps ds ρ = some ρ' → ds.length = ps.length
  | [], [], _, _, _ => rfl
  | [], _ :: _, _, _, e => by rw [pms] at e <;> first | cases e | (intros; simp)
  | _ :: _, [], _, _, e => by rw [pms] at e <;> first | cases e | (intros; simp)
  | p :: ps, d :: ds, ρ, ρ', e => by
    rw [pms] at e
    obtain ⟨ρ1, e1, e2⟩ := Option.bind_eq_some_iff.mp e
    rw [List.length_cons, List.length_cons, pms_len e2]
theorem pt_tup {ps : List Pat} {es : List Expr} {k : Nat} {pos : Pos} (hc : X.calm = true) (h : PGs X es (gPs X.K ps)) (hn : (assignEach es X.env).length = ps.length := by rfl) (hst : (assignEach es X.env).findIdx? (·.1) = none := by rfl) : PG X (.Tuple es k pos) (gP X.K (.t ps)) := by
  refine pg_con (pg_tup (n := ps.length) hc h hn hst) fun v σ H Q ⟨G, ρ, d, ρ', R, hd, e, q⟩ => ?_
  cases d with
  | tuple ds =>
    rw [pm] at e
    cases hd with
    | @tup a vs _ h1 h2 =>
      exact ⟨a, vs, rfl, sqT_same R.sub h1, by rw [h2.len]; exact pms_len e, G, ρ, ds, ρ', R, h2, e, fun σ' r k w => q σ' r k fun vs hv => w vs (by rw [Pat.slots] at hv; exact hv)⟩
  | _ => rw [pm] at e <;> first | cases e | (intros; simp)
end
end DL

set_option Elab.async false
set_option linter.all false
set_option maxRecDepth 100000
/-! The D layer, 6: statements, loops. -/
namespace DL
open PySem PySem.Spec PyProof.Rows L2

/-- how a statement ends -/
inductive Out where
  | nx (ρ : En) | bk (ρ : En) | ct (ρ : En) | rt (s : Sl)
def fin (K : PySem.W.Frag) (G0 H0 : Hp) (D : Ends) : Out → Prop
  | .nx ρ => ∀ σ G H, Rp K G0 H0 G H σ ρ → D.nx σ H
  | .bk ρ => ∀ σ G H, Rp K G0 H0 G H σ ρ → D.bk σ H
  | .ct ρ => ∀ σ G H, Rp K G0 H0 G H σ ρ → D.ct σ H
  | .rt s => ∀ v G H, Ext G0 H0 G H → DL.SlR K G H v s → (s.own = true → ∀ a, v = .ref a → H0 a = none) → D.rt v H
def tS (K : PySem.W.Frag) (g : En → Option Out) : TS := fun D σ H => ∃ G0 H0 G ρ o, Rp K G0 H0 G H σ ρ ∧ g ρ = some o ∧ fin K G0 H0 D o
section
variable {X : Cx} {st : Stmt} {sts : List Stmt} {e : Expr} {pos : Pos} {fa fb : En → Option PyData} {g g1 g2 : En → Option Out} {ba : En → Option Bool}
theorem ps_con {t t' : TS} (h : PS X st t) (i : ∀ D σ H, t' D σ H → t D σ H) : PS X st t' := ⟨fun pins s σ H D I q => h.run pins s σ H D I (i _ _ _ q)⟩
theorem pss_con {t t' : TS} (h : PSs X sts t) (i : ∀ D σ H, t' D σ H → t D σ H) : PSs X sts t' := ⟨fun pins s σ H D I q => h.run pins s σ H D I (i _ _ _ q)⟩
abbrev PSD (X : Cx) (st : Stmt) (g : En → Option Out) : Prop := PS X st (tS X.K g)
abbrev PSSD (X : Cx) (sts : List Stmt) (g : En → Option Out) : Prop := PSs X sts (tS X.K g)
/-- what follows, where the first goes on -/
def andThen (o : Out) (g : En → Option Out) : Option Out := match o with
  | .nx ρ => g ρ
  | o => some o
def gSeq (g1 g2 : En → Option Out) : En → Option Out := fun ρ => (g1 ρ).bind fun o => andThen o g2
def gNext : En → Option Out := fun ρ => some (.nx ρ)
theorem ss_nil : PSSD X [] gNext := pss_con pss_nil fun D σ H ⟨G0, H0, G, ρ, o, R, e, q⟩ => by cases e; exact q σ G H R
theorem ss_one (h : PSD X st g) : PSSD X [st] g := pss_one h
theorem ss_cons (h1 : PSD X st g1) (h2 : PSSD X sts g2) : PSSD X (st :: sts) (gSeq g1 g2) := pss_con (pss_cons h1 h2) fun D σ H ⟨G0, H0, G, ρ, o, R, e, q⟩ => by
  obtain ⟨o1, e1, e2⟩ := Option.bind_eq_some_iff.mp e
  refine ⟨G0, H0, G, ρ, o1, R, e1, ?_⟩
  cases o1 with
  | nx ρ1 => exact fun σ1 G1 H1 R1 => ⟨G0, H0, G1, ρ1, o, R1, e2, q⟩
  | bk ρ1 => cases e2; exact q
  | ct ρ1 => cases e2; exact q
  | rt s => cases e2; exact q
theorem sd_pass : PSD X (.Pass pos) gNext := ps_con ps_pass fun D σ H ⟨G0, H0, G, ρ, o, R, e, q⟩ => by cases e; exact q σ G H R
theorem sd_break : PSD X (.Break pos) (fun ρ => some (.bk ρ)) := ps_con ps_break fun D σ H ⟨G0, H0, G, ρ, o, R, e, q⟩ => by cases e; exact q σ G H R
theorem sd_cont : PSD X (.Continue pos) (fun ρ => some (.ct ρ)) := ps_con ps_continue fun D σ H ⟨G0, H0, G, ρ, o, R, e, q⟩ => by cases e; exact q σ G H R
/-- a statement that is never reached -/
theorem sd_never : PSD X st (fun _ => none) := ps_con ps_never fun D σ H ⟨G0, H0, G, ρ, o, R, e, q⟩ => by cases e
theorem ss_never : PSSD X sts (fun _ => none) := pss_con pss_never fun D σ H ⟨G0, H0, G, ρ, o, R, e, q⟩ => by cases e
def gIf (ba : En → Option Bool) (g1 g2 : En → Option Out) : En → Option Out := fun ρ => (ba ρ).bind fun c => if c then g1 ρ else g2 ρ
theorem sd_if {c : Expr} {a b : List Stmt} (hc : PB X c ba) (ha : PSSD X a g1) (hb : PSSD X b g2) : PSD X (.If c a b pos) (gIf ba g1 g2) := ps_con (ps_if hc ha hb) fun D σ H ⟨G0, H0, G, ρ, o, R, e, q⟩ => by
  obtain ⟨z, e1, e2⟩ := Option.bind_eq_some_iff.mp e
  refine ⟨G, ρ, z, R.rx, e1, fun G1 H1 x1 => ?_⟩
  cases z with
  | true => exact iteT ⟨G0, H0, G1, ρ, o, R.grow x1, e2, q⟩
  | false => exact iteF ⟨G0, H0, G1, ρ, o, R.grow x1, e2, q⟩
/-- return -/
theorem sd_ret (he : PD X e fa) : PSD X (.Return (some e) pos) (fun ρ => (fa ρ).map fun d => .rt (.p d)) := ps_con (ps_ret he) fun D σ H ⟨G0, H0, G, ρ, o, R, e, q⟩ => by
  obtain ⟨d, e1, rfl⟩ := Option.map_eq_some_iff.mp e
  exact ⟨G, ρ, d, R.rx, e1, fun v G1 H1 x1 r1 => q v G1 H1 (R.ext.trans x1) (.p r1) fun z => (nomatch z)⟩
theorem sd_retF {f : En → Option Sl} (he : PF X e f) : PSD X (.Return (some e) pos) (fun ρ => (f ρ).map .rt) := ps_con (ps_ret he) fun D σ H ⟨G0, H0, G, ρ, o, R, e, q⟩ => by
  obtain ⟨d, e1, rfl⟩ := Option.map_eq_some_iff.mp e
  exact ⟨G, ρ, d, R.rx, e1, fun v G1 H1 x1 r1 f1 => q v G1 H1 (R.ext.trans x1) r1 fun o a z => R.ext.hh.free (f1 o a z)⟩
/-- return x, x own -/
def gRetV (i : Nat) : En → Option Out := fun ρ => match ρ[i]? with
  | some (some s) => some (.rt s)
  | _ => none
theorem sd_retV (i : Nat) {x : Str} {p : Pos} (hN : X.N[i]? = some x := by rfl) (hv : Vis X.env.scope x := by first | exact Or.inl rfl | exact Or.inr (Or.inl rfl) | exact Or.inr (Or.inr rfl)) (hd : (x == ("__debug__" : Str)) = false := by decide)
    (hcd : (x == ("__classdict__" : Str)) = false := by decide) : PSD X (.Return (some (.Name x p)) pos) (gRetV i) := ps_con (ps_ret (pe_var hN hv hd hcd)) fun D σ H ⟨G0, H0, G, ρ, o, R, e, q⟩ => by
  unfold gRetV at e
  split at e
  · next s hs =>
    cases e
    obtain ⟨v, h1, h2⟩ := R.rx.at_ i _ hs
    exact ⟨v, h1, q v G H R.ext h2 fun o a z => R.own i s a hs o (by rw [← z]; exact h1)⟩
  · cases e
theorem sd_retN : PSD X (.Return none pos) (fun _ => some (.rt (.p .none))) := ps_con ps_retN fun D σ H ⟨G0, H0, G, ρ, o, R, e, q⟩ => by
  cases e; exact q .non G H R.ext (.p .non) fun z => (nomatch z)
/-- an expression alone -/
theorem sd_expr (he : PTp X e fa) (hs : swapsWith e none pos.line X.env = pure false := by rfl) : PSD X (.Expr e pos) (fun ρ => (fa ρ).map fun _ => .nx ρ) := ps_con (ps_expr he hs) fun D σ H ⟨G0, H0, G, ρ, o, R, e, q⟩ => by
  obtain ⟨d, e1, rfl⟩ := Option.map_eq_some_iff.mp e
  exact ⟨G, ρ, d, R.rx, e1, fun v G1 H1 x1 r1 => q σ G1 H1 (R.grow x1)⟩
/-- x = e -/
def gSet (i : Nat) (fa : En → Option PyData) : En → Option Out := fun ρ => (fa ρ).map fun d => .nx (ρ.set i (some (.p d)))
def gSetF (i : Nat) (f : En → Option Sl) : En → Option Out := fun ρ => (f ρ).map fun s => .nx (ρ.set i (some s))
theorem asg_d {i : Nat} : ∀ D σ H, tS X.K (gSet i fa) D σ H → tAsg (tD X.K fa) (gName i) D σ H := fun D σ H ⟨G0, H0, G, ρ, o, R, e, q⟩ => by
  obtain ⟨d, e1, rfl⟩ := Option.map_eq_some_iff.mp e
  refine ⟨G, ρ, d, R.rx, e1, fun v G1 H1 x1 r1 => ?_⟩
  obtain ⟨r, k⟩ := (R.rx.ext x1).set i r1
  exact q _ G1 H1 ((R.grow x1).kept r k)
theorem rp_setF {K : PySem.W.Frag} {G0 H0 G H G1 H1 : Hp} {σ : St} {ρ : En} {i : Nat} {v : V} {s : Sl} (R : Rp K G0 H0 G H σ ρ) (x1 : Ext G H G1 H1) (r1 : DL.SlR K G1 H1 v s) (f1 : s.own = true → ∀ a, v = .ref a → H a = none) :
    Rp K G0 H0 G1 H1 (σ.set i (some v)) (ρ.set i (some s)) := by
  refine ⟨(R.rx.ext x1).set_any i r1 fun ow a ea j t hne hj ot hs => ?_, R.ext.trans x1, fun j t a hj ot hs => ?_⟩
  · obtain ⟨w, w1, w2⟩ := R.rx.at_ j t hj
    rw [hs] at w1
    have z : w = .ref a := by cases w1; rfl
    subst z
    cases w2 with
    | p _ => cases ot
    | s _ => cases ot
    | q _ => cases ot
    | l _ h2 _ => rw [f1 ow a ea] at h2; cases h2
    | k _ h2 _ => rw [f1 ow a ea] at h2; cases h2
  · rcases en_set_get hj with ⟨e, hl, e2⟩ | ⟨hne, hj⟩
    · cases e2; subst e
      rw [List.getElem?_set_self (by rw [R.rx.len]; exact hl)] at hs
      cases hs
      exact R.ext.hh.free (f1 ot a rfl)
    · rw [st_set_ne hne] at hs
      exact R.own j t a hj ot hs
theorem asg_f {i : Nat} {f : En → Option Sl} : ∀ D σ H, tS X.K (gSetF i f) D σ H → tAsg (tF X.K f) (gName i) D σ H := fun D σ H ⟨G0, H0, G, ρ, o, R, e, q⟩ => by
  obtain ⟨s, e1, rfl⟩ := Option.map_eq_some_iff.mp e
  exact ⟨G, ρ, s, R.rx, e1, fun v G1 H1 x1 r1 f1 => q _ G1 H1 (rp_setF R x1 r1 f1)⟩
theorem sd_set {i : Nat} {x : Str} {pos' : Pos} (hN : X.N.Nodup) (hi : X.N[i]? = some x) (hx : Loc X.env.scope x) (he : PD X e fa) (hs : swapsWith e (some (.Name x pos')) pos.line X.env = pure false := by rfl)
    (hf : X.fn x = true ∨ X.env.scope.names.lookup x = some .local := by first | exact .inl rfl | exact .inr rfl) : PSD X (.Assign [.Name x pos'] e pos) (gSet i fa) := ps_con (ps_set hN hi hx he hs hf) asg_d
theorem sd_setF {i : Nat} {x : Str} {pos' : Pos} {f : En → Option Sl} (hN : X.N.Nodup) (hi : X.N[i]? = some x) (hx : Loc X.env.scope x) (he : PF X e f) (hs : swapsWith e (some (.Name x pos')) pos.line X.env = pure false := by rfl)
    (hf : X.fn x = true ∨ X.env.scope.names.lookup x = some .local := by first | exact .inl rfl | exact .inr rfl) : PSD X (.Assign [.Name x pos'] e pos) (gSetF i f) := ps_con (ps_set hN hi hx he hs hf) asg_f
/-- a, b = e -/
def gPat (p : Pat) (fa : En → Option PyData) : En → Option Out := fun ρ => (fa ρ).bind fun d => (pm p d ρ).map .nx
theorem sd_pat {p : Pat} {tg : Expr} (he : PD X e fa) (hg : PG X tg (gP X.K p)) (hs : swapsWithSole [tg] e pos.line X.env = pure false := by rfl) (hw : swappedStores [tg] e X.env = pure none := by rfl) (h1 : (assignEach [tg] X.env).map (·.2) = [assign tg X.env] := by rfl) : PSD X (.Assign [tg] e pos) (gPat p fa) :=
  ps_con (ps_asg he hg hs hw h1) fun D σ H ⟨G0, H0, G, ρ, o, R, e, q⟩ => by
    obtain ⟨d, e1, e2⟩ := Option.bind_eq_some_iff.mp e
    obtain ⟨ρ1, e3, rfl⟩ := Option.map_eq_some_iff.mp e2
    exact ⟨G, ρ, d, R.rx, e1, fun v G1 H1 x1 r1 => ⟨G1, ρ, d, ρ1, R.rx.ext x1, r1, e3, fun σ' r k _ => q σ' G1 H1 ((R.grow x1).kept r k)⟩⟩
/-- a, b = e1, e2: both written -/
def gPar (i j : Nat) (fa fb : En → Option PyData) : En → Option Out := fun ρ => (fa ρ).bind fun x => (fb ρ).map fun y => .nx ((ρ.set i (some (.p x))).set j (some (.p y)))
theorem sd_par {i j : Nat} {x y : Str} {a b : Expr} {px py pt : Pos} {kt k2 pt2} (hc : X.calm = true) (hN : X.N.Nodup) (hi : X.N[i]? = some x) (hj : X.N[j]? = some y) (hij : i ≠ j) (hx : X.env.scope.names.lookup x = some .local) (hy : X.env.scope.names.lookup y = some .local)
    (ha : PD X a fa) (hb : PD X b fb) (hw : swappedStores [.Tuple [.Name x px, .Name y py] kt pt] (.Tuple [a, b] k2 pt2) X.env = pure (some [x, y]))
    (h1 : starEach [a, b] X.env = (false, eval a X.env) :: starEach [b] X.env := by rfl) (h2 : starEach [b] X.env = (false, eval b X.env) :: starEach [] X.env := by rfl)
    (hs : swapsWithSole [.Tuple [.Name x px, .Name y py] kt pt] (.Tuple [a, b] k2 pt2) pos.line X.env = pure false := by rfl) : PSD X (.Assign [.Tuple [.Name x px, .Name y py] kt pt] (.Tuple [a, b] k2 pt2) pos) (gPar i j fa fb) :=
  ps_con (ps_par hc hN hi hj hij hx hy (pa_cons ha (pa_cons hb pa_nil h2) h1) hw hs) fun D σ H ⟨G0, H0, G, ρ, o, R, e, q⟩ => by
    obtain ⟨dx, e1, e2⟩ := Option.bind_eq_some_iff.mp e
    obtain ⟨dy, e3, rfl⟩ := Option.map_eq_some_iff.mp e2
    refine ⟨G, ρ, dx, R.rx, e1, fun v G1 H1 x1 r1 => ⟨G1, ρ, dy, R.rx.ext x1, e3, fun w G2 H2 x2 r2 => ⟨v, w, rfl, ?_⟩⟩⟩
    have R2 := R.grow (x1.trans x2)
    obtain ⟨ra, ka⟩ := R2.rx.set i (r1.mono x2.gg)
    obtain ⟨rb, kb⟩ := ra.set j r2
    exact q _ G2 H2 (R2.kept rb (ka.trans kb))

/-! ### an own slot becomes clean -/
def relE (i : Nat) (ρ : En) : Option En := match ρ[i]? with
  | some (some s) => s.d.map fun d => ρ.set i (some (.p d))
  | _ => none
theorem rel_run {K : PySem.W.Frag} {P : Prop} {pins : List (Addr × Obj)} {s : Shared} {σ : St} {G0 H0 G H : Hp} {ρ ρ' : En} {i : Nat} (I : Inv X pins σ H s) (R : Rp K G0 H0 G H σ ρ) (e : relE i ρ = some ρ')
    (k : ∀ G' H', Inv X pins σ H' s → Rp K G0 H0 G' H' σ ρ' → P) : P := by
  unfold relE at e
  split at e
  · next sl hs =>
    obtain ⟨d, e1, rfl⟩ := Option.map_eq_some_iff.mp e
    obtain ⟨v, h1, h2⟩ := R.rx.at_ i _ hs
    have hil : i < ρ.length := by
      rcases Nat.lt_or_ge i ρ.length with h | h
      · exact h
      · rw [List.getElem?_eq_none h] at hs; cases hs
    have same : σ.set i (some v) = σ := by
      refine List.ext_getElem? fun j => ?_
      by_cases hj : j = i
      · subst hj; rw [List.getElem?_set_self (by rw [R.rx.len]; exact hil)]; exact h1.symm
      · exact st_set_ne hj
    cases h2 with
    | p h =>
      cases e1
      obtain ⟨r, kk⟩ := R.rx.set i h
      rw [same] at r kk
      exact k G H I (R.kept r kk)
    | s h => cases e1
    | q a => cases e1
    | @l a xs ds g1 g2 g3 =>
      cases e1
      have ha := R.own i _ a hs rfl h1
      have x1 : Ext G0 H0 (upd G a (.lst xs)) H := ⟨R.ext.gg.trans (same_upd g1), R.ext.hh, fun b o z => by
        by_cases hb : b = a
        · subst hb; rw [upd_same] at z; cases z; exact g2
        · rw [upd_ne hb] at z; exact R.ext.gh _ _ z, fun b z1 z2 => by rw [upd_ne (fun z => z1 (by rw [z]; exact ha))]; exact R.ext.hid b z1 z2⟩
      refine k (upd G a (.lst xs)) H I ⟨⟨x1.gh, by rw [List.length_set]; exact R.rx.len, fun j t hj => ?_, fun j1 j2 t1 t2 c hj1 hj2 o1 o2 k1 k2 => ?_⟩, x1, fun j t c hj o q => ?_⟩
      · rcases en_set_get hj with ⟨e, _, e2⟩ | ⟨hne, hj⟩
        · cases e2; subst e
          exact ⟨_, h1, .p (.lst upd_same (g3.mono (same_upd g1)))⟩
        · obtain ⟨w, w1, w2⟩ := R.rx.at_ j t hj
          refine ⟨w, w1, ?_⟩
          cases w2 with
          | p h => exact .p (h.mono (same_upd g1))
          | s h => exact .s (sqL_same (same_upd g1) h)
          | q a => exact .q a
          | @l c ys es f1 f2 f3 =>
            have hca : c ≠ a := fun z => hne (R.rx.apart j i _ _ a hj hs rfl rfl (by rw [w1, z]) h1)
            exact .l (by rw [upd_ne hca]; exact f1) f2 (f3.mono (same_upd g1))
          | @k c ys es f1 f2 f3 =>
            have hca : c ≠ a := fun z => hne (R.rx.apart j i _ _ a hj hs rfl rfl (by rw [w1, z]) h1)
            exact .k (by rw [upd_ne hca]; exact f1) f2 (f3.mono (same_upd g1))
      · rcases en_set_get hj1 with ⟨_, _, e2⟩ | ⟨_, hj1⟩
        · cases e2; cases o1
        · rcases en_set_get hj2 with ⟨_, _, e2⟩ | ⟨_, hj2⟩
          · cases e2; cases o2
          · exact R.rx.apart j1 j2 t1 t2 c hj1 hj2 o1 o2 k1 k2
      · rcases en_set_get hj with ⟨_, _, e2⟩ | ⟨_, hj⟩
        · cases e2; cases o
        · exact R.own j t c hj o q
    | @k a ks ds g1 g2 g3 =>
      cases e1
      have ha := R.own i _ a hs rfl h1
      obtain ⟨od, I2⟩ := I.lock g2 trivial
      have x1 : Ext G0 H0 (upd G a (.frz od (.dK ks))) (upd H a (.frz od (.dK ks))) := ⟨R.ext.gg.trans (same_upd g1), fun b o z => by rw [upd_ne (ne_of_none z ha)]; exact R.ext.hh _ _ z, fun b o z => by
        by_cases hb : b = a
        · subst hb; rw [upd_same] at z ⊢; exact z
        · rw [upd_ne hb] at z ⊢; exact R.ext.gh _ _ z, fun b z1 z2 => by rw [upd_ne (fun z => z1 (by rw [z]; exact ha))]; exact R.ext.hid b z1 z2⟩
      refine k (upd G a (.frz od (.dK ks))) _ I2 ⟨⟨x1.gh, by rw [List.length_set]; exact R.rx.len, fun j t hj => ?_, fun j1 j2 t1 t2 c hj1 hj2 o1 o2 k1 k2 => ?_⟩, x1, fun j t c hj o q => ?_⟩
      · rcases en_set_get hj with ⟨e, _, e2⟩ | ⟨hne, hj⟩
        · cases e2; subst e
          exact ⟨_, h1, .p (.dic upd_same (g3.mono (same_upd g1)))⟩
        · obtain ⟨w, w1, w2⟩ := R.rx.at_ j t hj
          refine ⟨w, w1, ?_⟩
          cases w2 with
          | p h => exact .p (h.mono (same_upd g1))
          | s h => exact .s (sqL_same (same_upd g1) h)
          | q a => exact .q a
          | @l c ys es f1 f2 f3 =>
            have hca : c ≠ a := fun z => hne (R.rx.apart j i _ _ a hj hs rfl rfl (by rw [w1, z]) h1)
            exact .l (by rw [upd_ne hca]; exact f1) (by rw [upd_ne hca]; exact f2) (f3.mono (same_upd g1))
          | @k c ys es f1 f2 f3 =>
            have hca : c ≠ a := fun z => hne (R.rx.apart j i _ _ a hj hs rfl rfl (by rw [w1, z]) h1)
            exact .k (by rw [upd_ne hca]; exact f1) (by rw [upd_ne hca]; exact f2) (f3.mono (same_upd g1))
      · rcases en_set_get hj1 with ⟨_, _, e2⟩ | ⟨_, hj1⟩
        · cases e2; cases o1
        · rcases en_set_get hj2 with ⟨_, _, e2⟩ | ⟨_, hj2⟩
          · cases e2; cases o2
          · exact R.rx.apart j1 j2 t1 t2 c hj1 hj2 o1 o2 k1 k2
      · rcases en_set_get hj with ⟨_, _, e2⟩ | ⟨_, hj⟩
        · cases e2; cases o
        · exact R.own j t c hj o q
  · cases e
theorem ss_rel (i : Nat) (h : PSSD X sts g) : PSSD X sts (fun ρ => (relE i ρ).bind g) := ⟨fun pins s σ H D I hw => by
  obtain ⟨G0, H0, G, ρ, o, R, e, q⟩ := hw
  obtain ⟨ρ', e1, e2⟩ := Option.bind_eq_some_iff.mp e
  exact rel_run I R e1 fun G' H' I' R' => h.run pins s σ H' D I' ⟨G0, H0, G', ρ', o, R', e2, q⟩⟩
theorem sd_rel (i : Nat) (h : PSD X st g) : PSD X st (fun ρ => (relE i ρ).bind g) := ⟨fun pins s σ H D I hw => by
  obtain ⟨G0, H0, G, ρ, o, R, e, q⟩ := hw
  obtain ⟨ρ', e1, e2⟩ := Option.bind_eq_some_iff.mp e
  exact rel_run I R e1 fun G' H' I' R' => h.run pins s σ H' D I' ⟨G0, H0, G', ρ', o, R', e2, q⟩⟩

/-! ### loops -/
/-- what a walk gives: the data ds, while W stands (and G, where the items are clean) -/
structure WalkD (K : PySem.W.Frag) (J : It) (ds : List PyData) (W G : Hp) : Prop where
  goes : ∀ i H, i < ds.length → Same W H → J.go i H
  stops : ∀ H, Same W H → J.stop ds.length H
  yields : ∀ i G' H x H', i < ds.length → Same W H → Same G G' → Same G' H → J.yld i H x H' → ∃ G'' d, Ext G' H G'' H' ∧ ds[i]? = some d ∧ Dq K G'' x d
/-- a walk over clean data (cl), or over what stands at the moment -/
def iD (cl : Bool) (K : PySem.W.Frag) (f : En → Option (List PyData)) : TI := fun σ H R => ∃ G ρ ds, Rx K G H σ ρ ∧ f ρ = some ds ∧ ∀ J G' H', Ext G H G' H' → WalkD K J ds (if cl then G' else H') G' → ds.length ≤ sizeLine → R J H'
abbrev PId (cl : Bool) (X : Cx) (tg e : Expr) (f : En → Option (List PyData)) : Prop := PI X tg e (iD cl X.K f)
/-- the slots that are forgotten at each turn and behind the loop -/
def fgt (fs : List Nat) (ρ : En) : En := fs.foldl (fun r i => r.set i none) ρ
theorem fgt_spec : ∀ (fs : List Nat) (ρ : En), (fgt fs ρ).length = ρ.length ∧ ∀ (j : Nat) (s : Sl), (fgt fs ρ)[j]? = some (some s) → ρ[j]? = some (some s)
  | [], ρ => ⟨rfl, fun _ _ h => h⟩
  | i :: fs, ρ => by
    obtain ⟨h1, h2⟩ := fgt_spec fs (ρ.set i none)
    refine ⟨by show (fgt fs (ρ.set i none)).length = _; rw [h1, List.length_set], fun j s h => ?_⟩
    have h3 := h2 j s h
    rw [List.getElem?_set] at h3
    split at h3
    · split at h3 <;> cases h3
    · exact h3
theorem Rp.fgt {K : PySem.W.Frag} {G0 H0 G H : Hp} {σ : St} {ρ : En} (R : Rp K G0 H0 G H σ ρ) (fs : List Nat) : Rp K G0 H0 G H σ (fgt fs ρ) := R.weak (fgt_spec fs ρ).1 (fgt_spec fs ρ).2
def loopD (fs : List Nat) (p : Pat) (gb : En → Option Out) : List PyData → En → Option Out
  | [], ρ => some (.nx ρ)
  | d :: r, ρ => (pm p d ρ).bind fun ρ1 => (gb ρ1).bind fun o => match o with
    | .nx ρ2 => loopD fs p gb r (DL.fgt fs ρ2)
    | .ct ρ2 => loopD fs p gb r (DL.fgt fs ρ2)
    | .bk ρ2 => some (.nx (DL.fgt fs ρ2))
    | .rt s => some (.rt s)
def gFor (fs : List Nat) (fi : En → Option (List PyData)) (p : Pat) (gb : En → Option Out) : En → Option Out := fun ρ => (fi ρ).bind fun ds => loopD fs p gb ds (fgt fs ρ)
theorem drop_cons {α : Type} {ds : List α} {i : Nat} (h : i < ds.length) : ∃ d, ds[i]? = some d ∧ ds.drop i = d :: ds.drop (i + 1) :=
  ⟨ds[i], by simp [h], List.drop_eq_getElem_cons h⟩
theorem sd_for {tg iter : Expr} {body : List Stmt} {fs : List Nat} {fi : En → Option (List PyData)} {p : Pat} (hp : PassesOwn (model X.prog X.w) X.A X.env X.xe) (hc : X.calm = true) (hi : PId true X tg iter fi) (hg : PG X tg (gP X.K p)) (hb : PSSD X body g) (hs : ∀ x, foldedSetIterable iter X.env x = pure x := by intro _; rfl) :
    PSD X (.For tg iter body [] pos) (gFor fs fi p g) := ps_con (ps_for hp hc hi hg hb hs) fun D σ H ⟨G0, H0, G, ρ, o, R, e, q⟩ => by
  obtain ⟨ds, e1, e2⟩ := Option.bind_eq_some_iff.mp e
  refine ⟨G, ρ, ds, R.rx, e1, fun J G1 H1 x1 w hz => ?_⟩
  have w' : WalkD X.K J ds G1 G1 := w
  have RX := R.ext.trans x1
  refine ⟨fun i m σ H => i ≤ ds.length ∧ m = ds.length - i ∧ ∃ G ρ, Rp X.K G1 H0 G H σ ρ ∧ loopD fs p g (ds.drop i) ρ = some o, ⟨_, Nat.zero_le _, rfl, G1, _, ((R.grow x1).fgt fs).up, e2⟩, ?_⟩
  rintro i m σ2 H2 ⟨hi, rfl, G2, ρ2, R2, e3⟩
  have W2 : Same G1 H2 := R2.ext.gg.trans R2.ext.gh
  by_cases hlt : i < ds.length
  · obtain ⟨d, hd, hdr⟩ := drop_cons hlt
    rw [hdr, loopD] at e3
    obtain ⟨ρ3, e4, e5⟩ := Option.bind_eq_some_iff.mp e3
    obtain ⟨o3, e6, e7⟩ := Option.bind_eq_some_iff.mp e5
    refine .inr ⟨w'.goes i H2 hlt W2, fun σ' H' => ∃ G' ρ', Rp X.K G1 H0 G' H' σ' ρ' ∧ loopD fs p g (ds.drop (i + 1)) ρ' = some o, fun σ' H' ⟨G', ρ', R', e'⟩ => ⟨ds.length - (i + 1), by omega, hlt, rfl, G', ρ', R', e'⟩, fun x H' y => ?_⟩
    obtain ⟨G3, d', x3, hd', r3⟩ := w'.yields i G2 H2 x H' hlt W2 R2.ext.gg R2.ext.gh y
    rw [hd] at hd'; cases hd'
    have R3 := R2.grow x3
    refine ⟨G3, ρ2, d, ρ3, R3.rx, r3, e4, fun σ' r k _ => ⟨G1, H0, G3, ρ3, o3, R3.kept r k, e6, ?_⟩⟩
    cases o3 with
    | nx ρ4 => exact fun σ4 G4 H4 R4 => ⟨G4, _, R4.fgt fs, e7⟩
    | ct ρ4 => exact fun σ4 G4 H4 R4 => ⟨G4, _, R4.fgt fs, e7⟩
    | bk ρ4 => cases e7; exact fun σ4 G4 H4 R4 => q σ4 G4 H4 ((Rp.down RX (R4)).fgt fs)
    | rt s => cases e7; exact fun v G4 H4 x4 r4 f4 => q v G4 H4 (ext_down RX x4) r4 f4
  · have ei : i = ds.length := by omega
    subst ei
    rw [List.drop_length, loopD] at e3
    cases e3
    exact .inl ⟨w'.stops H2 W2, q σ2 G2 H2 (Rp.down RX R2)⟩
def whileD (fs : List Nat) (ba : En → Option Bool) (gb : En → Option Out) : Nat → En → Option Out
  | 0, _ => none
  | n + 1, ρ => (ba ρ).bind fun c => if c then (gb ρ).bind fun o => match o with
      | .nx ρ2 => whileD fs ba gb n (DL.fgt fs ρ2)
      | .ct ρ2 => whileD fs ba gb n (DL.fgt fs ρ2)
      | .bk ρ2 => some (.nx (DL.fgt fs ρ2))
      | .rt s => some (.rt s)
    else some (.nx ρ)
def gWhile (fs : List Nat) (fuel : Nat) (ba : En → Option Bool) (gb : En → Option Out) : En → Option Out := fun ρ => whileD fs ba gb fuel (fgt fs ρ)
theorem sd_while {c : Expr} {body : List Stmt} {fs : List Nat} (fuel : Nat) (hp : PassesOwn (model X.prog X.w) X.A X.env X.xe) (hc : PB X c ba) (hb : PSSD X body g) : PSD X (.While c body [] pos) (gWhile fs fuel ba g) := ps_con (ps_while hp hc hb) fun D σ H ⟨G0, H0, G, ρ, o, R, e, q⟩ => by
  refine ⟨fun m σ H => ∃ G ρ, Rp X.K G0 H0 G H σ ρ ∧ whileD fs ba g m ρ = some o, ⟨fuel, G, _, R.fgt fs, e⟩, ?_⟩
  rintro m σ2 H2 ⟨G2, ρ2, R2, e2⟩
  cases m with
  | zero => cases e2
  | succ m =>
    rw [whileD] at e2
    obtain ⟨z, e3, e4⟩ := Option.bind_eq_some_iff.mp e2
    refine ⟨G2, ρ2, z, R2.rx, e3, fun G3 H3 x3 => ?_⟩
    cases z with
    | false => cases e4; exact iteF (q σ2 G3 H3 (R2.grow x3))
    | true =>
      obtain ⟨o3, e5, e6⟩ := Option.bind_eq_some_iff.mp e4
      refine iteT ⟨fun σ' H' => ∃ G' ρ', Rp X.K G0 H0 G' H' σ' ρ' ∧ whileD fs ba g m ρ' = some o, fun σ' H' ⟨G', ρ', R', e'⟩ => ⟨m, Nat.lt_succ_self _, G', ρ', R', e'⟩, G0, H0, G3, ρ2, o3, R2.grow x3, e5, ?_⟩
      cases o3 with
      | nx ρ4 => exact fun σ4 G4 H4 R4 => ⟨G4, _, R4.fgt fs, e6⟩
      | ct ρ4 => exact fun σ4 G4 H4 R4 => ⟨G4, _, R4.fgt fs, e6⟩
      | bk ρ4 => cases e6; exact fun σ4 G4 H4 R4 => q σ4 G4 H4 (R4.fgt fs)
      | rt s => cases e6; exact q
end
end DL

set_option Elab.async false
set_option linter.all false
set_option maxRecDepth 100000
/-! The D layer, 7: what is walked; comprehensions. -/
namespace DL
open PySem PySem.Spec PyProof.Rows L2

/-- clean data, or data read at the top -/
def Dx (cl : Bool) (K : PySem.W.Frag) (G H : Hp) (v : V) (d : PyData) : Prop := if cl then Dq K G v d else Dt K G H v d
def tX (cl : Bool) (K : PySem.W.Frag) (f : En → Option PyData) : TE := fun σ H Q => ∃ G ρ d, Rx K G H σ ρ ∧ f ρ = some d ∧ ∀ v G' H', Ext G H G' H' → Dx cl K G' H' v d → Q v H'
section
variable {X : Cx} {tg e a b c : Expr} {fa fb fc : En → Option PyData} {cl : Bool} {K : PySem.W.Frag} {G H : Hp} {pos : Pos}
theorem PD.x (h : PD X e fa) : PE X e (tX true X.K fa) := h
theorem PTp.x (h : PTp X e fa) : PE X e (tX false X.K fa) := h
def Wv (cl : Bool) (G H : Hp) : Hp := if cl then G else H
theorem Wv.sub (s : Same G H) : Same (Wv cl G H) H := by
  cases cl with
  | true => exact s
  | false => exact .refl _
theorem Dx.lst_ {v : V} {ds : List PyData} (s : Same G H) (h : Dx cl K G H v (.list ds)) : ∃ a xs, v = .ref a ∧ Wv cl G H a = some (.lst xs) ∧ DqAll K G xs ds := by
  cases cl with
  | true => cases h with | lst h1 h2 => exact ⟨_, _, rfl, h1, h2⟩
  | false => obtain ⟨a, xs, e, h1, h2⟩ := Dt.lst_ s h; exact ⟨a, xs, e, h1, h2⟩
theorem Dx.tup_ {v : V} {ds : List PyData} (s : Same G H) (h : Dx cl K G H v (.tuple ds)) : ∃ a xs, v = .ref a ∧ SqT K G a xs ∧ DqAll K G xs ds := by
  cases cl with
  | true => cases h with | tup h1 h2 => exact ⟨_, _, rfl, h1, h2⟩
  | false => obtain ⟨a, xs, e, h1, h2, h3⟩ := Dt.tup_ s h; exact ⟨a, xs, e, h2, h3⟩
theorem Dx.int_ {v : V} {i : Int} (h : Dx cl K G H v (.int i)) : v = .int i := by
  cases cl with
  | true => cases h; rfl
  | false => exact Dt.int_ h
/-! ### walks over data -/
theorem walkd_list {a : Addr} {xs : List V} {ds : List PyData} {W : Hp} (h : W a = some (.lst xs)) (hd : DqAll K G xs ds) : WalkD K (Itl K a) ds W G where
  goes := fun i H hi s => (walk_list (K := K) (a := a) (xs := xs)).goes i H (by rw [hd.len]; exact hi) (.of (s _ _ h))
  stops := fun H s => by rw [← hd.len]; exact (walk_list (K := K) (a := a) (xs := xs)).stops H (.of (s _ _ h))
  yields := fun i G' H x H' hi s g1 g2 y => by
    obtain ⟨rfl, e⟩ := (walk_list (K := K) (a := a) (xs := xs)).yields i H x H' (by rw [hd.len]; exact hi) (.of (s _ _ h)) y
    obtain ⟨d, e1, e2⟩ := hd.get' e
    exact ⟨G', d, .refl g2, e1, e2.mono g1⟩
theorem walkd_tup {a : Addr} {xs : List V} {ds : List PyData} {W : Hp} (h : SqT K W a xs) (hd : DqAll K G xs ds) : WalkD K (Itt K a) ds W G where
  goes := fun i H hi s => (walk_tup (K := K) (a := a) (xs := xs)).goes i H (by rw [hd.len]; exact hi) (sqT_same s h)
  stops := fun H s => by rw [← hd.len]; exact (walk_tup (K := K) (a := a) (xs := xs)).stops H (sqT_same s h)
  yields := fun i G' H x H' hi s g1 g2 y => by
    obtain ⟨rfl, e⟩ := (walk_tup (K := K) (a := a) (xs := xs)).yields i H x H' (by rw [hd.len]; exact hi) (sqT_same s h) y
    obtain ⟨d, e1, e2⟩ := hd.get' e
    exact ⟨G', d, .refl g2, e1, e2.mono g1⟩
def rangeL (lo : Int) (n : Nat) : List PyData := (List.range n).map fun i => .int (lo + (i : Nat))
theorem walkd_range {lo : Int} {n : Nat} {W : Hp} : WalkD K (Itr lo n) (rangeL lo n) W G where
  goes := fun i H hi s => (show i < n by simpa [rangeL] using hi)
  stops := fun H s => by simp [rangeL, Itr]
  yields := fun i G' H x H' hi s g1 g2 y => by
    obtain ⟨rfl, rfl⟩ := y
    have hn : i < n := by simpa [rangeL] using hi
    exact ⟨G', _, .refl g2, by simp [rangeL, hn], .int _⟩
def pairL (xs ys : List PyData) : List PyData := List.zipWith (fun x y => .tuple [x, y]) xs ys
def enumL (xs : List PyData) : List PyData := pairL (rangeL 0 xs.length) xs
theorem pair_new {x y : V} {d e : PyData} {G' H : Hp} {T : Addr} (g2 : Same G' H) (hT : H T = none) (h1 : Dq K G' x d) (h2 : Dq K G' y e) : Ext G' H (upd G' T (.tup [x, y])) (upd H T (.tup [x, y])) ∧ Dq K (upd G' T (.tup [x, y])) (.ref T) (.tuple [d, e]) :=
  new_tup g2 hT (.cons h1 (.cons h2 .nil))
theorem walkd_enum {a : Addr} {xs : List V} {ds : List PyData} {W : Hp} (h : W a = some (.lst xs)) (hd : DqAll K G xs ds) : WalkD K (Ite K a) (enumL ds) W G := by
  have hl : (enumL ds).length = xs.length := by simp [enumL, pairL, rangeL, hd.len]
  refine ⟨fun i H hi s => (walk_enum (K := K) (a := a) (xs := xs)).goes i H (by rw [← hl]; exact hi) (.of (s _ _ h)), fun H s => by rw [hl]; exact (walk_enum (K := K) (a := a) (xs := xs)).stops H (.of (s _ _ h)), fun i G' H x H' hi s g1 g2 y => ?_⟩
  obtain ⟨T, u, w, rfl, hT, rfl, e1, e2⟩ := (walk_enum (K := K) (a := a) (xs := xs)).yields i H x H' (by rw [← hl]; exact hi) (.of (s _ _ h)) y
  cases e1
  obtain ⟨d, f1, f2⟩ := hd.get' e2
  have hi' : i < ds.length := by rw [← hd.len, ← hl]; exact hi
  obtain ⟨k1, k2⟩ := pair_new g2 hT (.int i) (f2.mono g1)
  refine ⟨_, _, k1, ?_, k2⟩
  have f1' : ds[i] = d := by have := List.getElem?_eq_getElem hi'; rw [f1] at this; exact (Option.some.inj this).symm
  simp [enumL, pairL, rangeL, List.getElem?_zipWith, hi', f1']
theorem walkd_zip {a b : Addr} {xs ys : List V} {ds es : List PyData} {W : Hp} (h : W a = some (.lst xs)) (h' : W b = some (.lst ys)) (hd : DqAll K G xs ds) (he : DqAll K G ys es) : WalkD K (Itz K a b) (pairL ds es) W G := by
  have hl : (pairL ds es).length = min xs.length ys.length := by simp [pairL, hd.len, he.len]
  have w := walk_zip (K := K) (a := a) (b := b) (xs := xs) (ys := ys) rfl
  refine ⟨fun i H hi s => w.goes i H (by rw [← hl]; exact hi) ⟨.of (s _ _ h), .of (s _ _ h')⟩, fun H s => by rw [hl]; exact w.stops H ⟨.of (s _ _ h), .of (s _ _ h')⟩, fun i G' H x H' hi s g1 g2 y => ?_⟩
  obtain ⟨T, u, v, rfl, hT, rfl, e1, e2⟩ := w.yields i H x H' (by rw [← hl]; exact hi) ⟨.of (s _ _ h), .of (s _ _ h')⟩ y
  obtain ⟨d, f1, f2⟩ := hd.get' e1
  obtain ⟨e, f3, f4⟩ := he.get' e2
  obtain ⟨k1, k2⟩ := pair_new g2 hT (f2.mono g1) (f4.mono g1)
  exact ⟨_, _, k1, by simp [pairL, List.getElem?_zipWith, f1, f3], k2⟩
/-! ### what is walked -/
theorem pie_map {pins : List (Addr × Obj)} {σ : St} {R R' : It → Hp → Prop} {u : Value} {s2 : Shared} (h : PIE X pins σ tg R u s2) (k : ∀ J H', Inv X pins σ H' s2 → R J H' → R' J H') : PIE X pins σ tg R' u s2 := by
  obtain ⟨it, fp, tn, J, H', e, I, T, t0, f, r⟩ := h
  exact ⟨it, fp, tn, J, H', e, I, T, t0, f, k J H' I r⟩
theorem pi_weak {wi : TI} {R R' : It → Hp → Prop} {pins : List (Addr × Obj)} {s : Shared} {σ : St} {H : Hp} (h : PI X tg e wi) (I : Inv X pins σ H s) (hw : wi σ H R) (k : ∀ J H' s2, Inv X pins σ H' s2 → R J H' → R' J H') :
    wpAny (model X.prog X.w) X.A (eval e X.env) (fun v s1 => wpAny (model X.prog X.w) X.A (pyIter v) (PIE X pins σ tg R') X.xe s1) X.xe s :=
  thn (h.run pins s σ H R I hw) fun v s1 h1 => thn h1 fun u s2 h2 => pie_map h2 fun J H' I' r => k J H' s2 I' r
theorem len_list {pins : List (Addr × Obj)} {s : Shared} {σ : St} {W : Hp} {p : Addr} {xs : List V} {ds : List PyData} (I : Inv X pins σ H s) (sub : Same W H) (h : W p = some (.lst xs)) (hd : DqAll K G xs ds) : ds.length ≤ sizeLine := by
  rw [← hd.len]; exact (I.lstM (sub _ _ h)).1
theorem it_seq (h : PE X e (tX cl X.K fa)) : PId cl X tg e (f1 itemsD fa) := ⟨fun pins s σ H R I hw => by
  obtain ⟨G, ρ, ds, Rr, e1, q⟩ := hw
  obtain ⟨d, e2, e3⟩ := f1_some e1
  unfold itemsD at e3
  split at e3
  · cases e3
    refine pi_weak (R := fun J H' => ∃ G' a xs, Ext G H G' H' ∧ J = Itl X.K a ∧ Wv cl G' H' a = some (.lst xs) ∧ DqAll X.K G' xs ds) (pi_list h) I ⟨G, ρ, _, Rr, e2, fun v G1 H1 x1 r1 => ?_⟩ fun J H' s2 I' ⟨G', a, xs, x, ej, ha, hd⟩ => ?_
    · obtain ⟨a, xs, rfl, h1, h2⟩ := r1.lst_ x1.gh
      exact ⟨a, rfl, ⟨xs, .of (Wv.sub x1.gh _ _ h1)⟩, G1, a, xs, x1, rfl, h1, h2⟩
    · subst ej
      exact q _ G' H' x (walkd_list ha hd) (len_list I' (Wv.sub x.gh) ha hd)
  · cases e3
    refine pi_weak (R := fun J H' => ∃ G' a xs, Ext G H G' H' ∧ J = Itt X.K a ∧ SqT X.K G' a xs ∧ DqAll X.K G' xs ds) (pi_tup h) I ⟨G, ρ, _, Rr, e2, fun v G1 H1 x1 r1 => ?_⟩ fun J H' s2 I' ⟨G', a, xs, x, ej, ha, hd⟩ => ?_
    · obtain ⟨a, xs, rfl, h1, h2⟩ := r1.tup_ x1.gh
      exact ⟨a, rfl, ⟨xs, sqT_same x1.gh h1⟩, G1, a, xs, x1, rfl, h1, h2⟩
    · subst ej
      refine q _ G' H' x (walkd_tup ?_ hd) (by rw [← hd.len]; exact (I'.tuple (sqT_same x.gh ha)).elim fun _ z => z.2.2)
      cases cl with
      | true => exact ha
      | false => exact sqT_same x.gh ha
  · cases e3⟩
def range1D : PyData → Option (List PyData)
  | .int j => if -1000000 ≤ j ∧ j ≤ 1000000 then some (rangeL 0 j.toNat) else none
  | _ => none
def range2D : PyData → PyData → Option (List PyData)
  | .int i, .int j => if -1000000 ≤ i ∧ i ≤ 1000000 ∧ -1000000 ≤ j ∧ j ≤ 1000000 ∧ j - i ≤ 1000000 then some (rangeL i (j - i).toNat) else none
  | _, _ => none
theorem rangeL_len {lo : Int} {n : Nat} : (rangeL lo n).length = n := by simp [rangeL]
theorem it_range1 {p : Pos} (hg : Gl X "range") (hm : X.mg "range" = none) (h : PTp X a fa) (hs : starEach [a] X.env = [(false, eval a X.env)] := by rfl) : PId cl X tg (.Call (.Name "range" p) [a] [] pos) (f1 range1D fa) := ⟨fun pins s σ H R I hw => by
  obtain ⟨G, ρ, ds, Rr, e1, q⟩ := hw
  obtain ⟨d, e2, e3⟩ := f1_some e1
  unfold range1D at e3
  split at e3
  · next j =>
    split at e3
    · next hz =>
      cases e3
      refine (pi_range1 (tg := tg) hg hm (pa_cons h pa_nil hs) hs).run pins s σ H R I ⟨G, ρ, _, Rr, e2, fun v G1 H1 x1 r1 => ?_⟩
      cases r1.int_
      exact ⟨j, rfl, by omega, by omega, q _ G1 H1 x1 walkd_range (most_line (by rw [rangeL_len]; unfold most; omega))⟩
    · cases e3
  · cases e3⟩
theorem it_range2 {p : Pos} (hg : Gl X "range") (hm : X.mg "range" = none) (h : PTp X a fa) (h' : PTp X b fb) (hs : starEach [a, b] X.env = [(false, eval a X.env), (false, eval b X.env)] := by rfl)
    (hs1 : starEach [a, b] X.env = (false, eval a X.env) :: starEach [b] X.env := by rfl) (hs2 : starEach [b] X.env = (false, eval b X.env) :: starEach [] X.env := by rfl) (hs3 : (backTo pos (starEach [b] X.env)).any (·.1) = false := by rfl) : PId cl X tg (.Call (.Name "range" p) [a, b] [] pos) (f2 range2D fa fb) := ⟨fun pins s σ H R I hw => by
  obtain ⟨G, ρ, ds, Rr, e1, q⟩ := hw
  obtain ⟨dx, dy, e2, e3, e4⟩ := f2_some e1
  unfold range2D at e4
  split at e4
  · next i j =>
    split at e4
    · next hz =>
      cases e4
      refine (pi_range2 (tg := tg) hg hm (pa_cons h (pa_cons h' pa_nil hs2) hs1) hs hs2).run pins s σ H R I ⟨G, ρ, _, Rr, e2, fun v G1 H1 x1 r1 => ⟨G1, ρ, _, Rr.ext x1, e3, fun w G2 H2 x2 r2 => ?_⟩⟩
      cases r1.int_
      cases r2.int_
      exact ⟨i, j, rfl, by omega, q _ G2 H2 (x1.trans x2) walkd_range (most_line (by rw [rangeL_len]; unfold most; omega))⟩
    · cases e4
  · cases e4⟩
def listOnly : PyData → Option (List PyData)
  | .list xs => some xs
  | _ => none
theorem enumL_len {ds : List PyData} : (enumL ds).length = ds.length := by simp [enumL, pairL, rangeL]
theorem it_enum {p tpos : Pos} {elts : List Expr} {kk : Nat} (hg : Gl X "enumerate") (hm : X.mg "enumerate" = none) (h : PE X a (tX cl X.K fa)) (hs : starEach [a] X.env = [(false, eval a X.env)] := by rfl) :
    PId cl X (.Tuple elts kk tpos) (.Call (.Name "enumerate" p) [a] [] pos) (f1 (fun d => (listOnly d).map enumL) fa) := ⟨fun pins s σ H R I hw => by
  obtain ⟨G, ρ, ds, Rr, e1, q⟩ := hw
  obtain ⟨d, e2, e3⟩ := f1_some e1
  obtain ⟨es, e4, rfl⟩ := Option.map_eq_some_iff.mp e3
  unfold listOnly at e4
  split at e4
  · cases e4
    refine pi_weak (R := fun J H' => ∃ G' a xs, Ext G H G' H' ∧ J = Ite X.K a ∧ Wv cl G' H' a = some (.lst xs) ∧ DqAll X.K G' xs es) (pi_enum hg hm (pa_cons h pa_nil hs) hs) I ⟨G, ρ, _, Rr, e2, fun v G1 H1 x1 r1 => ?_⟩ fun J H' s2 I' ⟨G', a, xs, x, ej, ha, hd⟩ => ?_
    · obtain ⟨a, xs, rfl, h1, h2⟩ := r1.lst_ x1.gh
      exact ⟨a, xs, rfl, .of (Wv.sub x1.gh _ _ h1), G1, a, xs, x1, rfl, h1, h2⟩
    · subst ej
      exact q _ G' H' x (walkd_enum ha hd) (by rw [enumL_len]; exact len_list I' (Wv.sub x.gh) ha hd)
  · cases e4⟩
def zipD : PyData → PyData → Option (List PyData)
  | .list xs, .list ys => some (pairL xs ys)
  | _, _ => none
theorem it_zip {p tpos : Pos} {elts : List Expr} {kk : Nat} (hg : Gl X "zip") (hm : X.mg "zip" = none) (h : PE X a (tX cl X.K fa)) (h' : PE X b (tX cl X.K fb)) (hs : starEach [a, b] X.env = (false, eval a X.env) :: starEach [b] X.env := by rfl)
    (hs2 : starEach [b] X.env = (false, eval b X.env) :: starEach [] X.env := by rfl) (hpl : (backTo pos (starEach [b] X.env)).any (·.1) = false := by rfl) :
    PId cl X (.Tuple elts kk tpos) (.Call (.Name "zip" p) [a, b] [] pos) (f2 zipD fa fb) := ⟨fun pins s σ H R I hw => by
  obtain ⟨G, ρ, ds, Rr, e1, q⟩ := hw
  obtain ⟨dx, dy, e2, e3, e4⟩ := f2_some e1
  unfold zipD at e4
  split at e4
  · next us ws =>
    cases e4
    refine pi_weak (R := fun J H' => ∃ G' a b xs ys, Ext G H G' H' ∧ J = Itz X.K a b ∧ Wv cl G' H' a = some (.lst xs) ∧ Wv cl G' H' b = some (.lst ys) ∧ DqAll X.K G' xs us ∧ DqAll X.K G' ys ws) (pi_zip hg hm (pa_cons h (pa_cons h' pa_nil hs2) hs) hs hpl) I
      ⟨G, ρ, _, Rr, e2, fun v G1 H1 x1 r1 => ⟨G1, ρ, _, Rr.ext x1, e3, fun w G2 H2 x2 r2 => ?_⟩⟩ fun J H' s2 I' ⟨G', a, b, xs, ys, x, ej, ha, hb, hd, hd'⟩ => ?_
    · obtain ⟨a, xs, rfl, h1, h2⟩ := r1.lst_ x1.gh
      obtain ⟨b, ys, rfl, h3, h4⟩ := r2.lst_ x2.gh
      have h1' : Wv cl G2 H2 a = some (.lst xs) := by
        cases cl with
        | true => exact x2.gg _ _ h1
        | false => exact x2.hh _ _ h1
      exact ⟨a, b, xs, ys, rfl, .of (Wv.sub x2.gh _ _ h1'), .of (Wv.sub x2.gh _ _ h3), G2, a, b, xs, ys, x1.trans x2, rfl, h1', h3, h2.mono x2.gg, h4⟩
    · subst ej
      have hz := len_list I' (Wv.sub x.gh) ha hd
      exact q _ G' H' x (walkd_zip ha hb hd hd') (by simp only [pairL, List.length_zipWith]; omega)
  · cases e4⟩

/-! ### list comprehensions -/
theorem wipe_get {σ : St} : ∀ {vs : List Nat} {j : Nat}, j ∉ vs → (wipe σ vs)[j]? = σ[j]?
  | [], _, _ => rfl
  | v :: vs, j, h => by
    unfold wipe
    rw [List.getElem?_set_ne (fun z => h (by rw [z]; exact List.mem_cons_self))]
    exact wipe_get fun z => h (List.mem_cons_of_mem _ z)
theorem wipe_set_none {σ : St} {j : Nat} : ∀ {vs : List Nat}, (wipe (σ.set j none) vs) = (wipe σ vs).set j none
  | [] => rfl
  | v :: vs => by
    unfold wipe
    rw [wipe_set_none]
    by_cases e : j = v
    · subst e; rfl
    · rw [List.set_comm _ _ e]
theorem wipe_idem {σ : St} : ∀ {vs : List Nat}, wipe (wipe σ vs) vs = wipe σ vs
  | [] => rfl
  | v :: vs => by
    show (wipe ((wipe σ vs).set v none) vs).set v none = (wipe σ vs).set v none
    rw [wipe_set_none, wipe_idem, List.set_set]
theorem fgt_not {fs : List Nat} : ∀ {ρ : En} {j : Nat} {s : Sl}, (DL.fgt fs ρ)[j]? = some (some s) → j ∉ fs := by
  induction fs with
  | nil => intro ρ j s _; simp
  | cons i fs ih =>
    intro ρ j s h hj
    rcases List.mem_cons.mp hj with e | hj
    · subst e
      have := (fgt_spec fs (ρ.set j none)).2 j s h
      rw [List.getElem?_set] at this
      split at this
      · split at this <;> cases this
      · next z => exact z rfl
    · exact ih (ρ := ρ.set i none) h hj
theorem Rx.wipe {σ : St} {ρ : En} (R : Rx K G H σ ρ) (vs : List Nat) : Rx K G H (L2.wipe σ vs) (DL.fgt vs ρ) :=
  R.weak (by rw [wipe_length, (fgt_spec vs ρ).1]; exact R.len) fun j s h => ⟨(fgt_spec vs ρ).2 j s h, wipe_get (fgt_not h)⟩
theorem pts_con {ifs : List Expr} {t t' : TT} (h : PTs X ifs t) (i : ∀ σ H Q, t' σ H Q → t σ H Q) : PTs X ifs t' := ⟨fun pins s σ H Q I q => h.run pins s σ H Q I (i _ _ _ q)⟩
def fYes : En → Option Bool := fun _ => some true
theorem ptb_nil : PTs X [] (DL.tB X.K fYes) := pts_con pts_nil fun σ H Q ⟨G, ρ, b, R, e, q⟩ => by cases e; exact q G H (.refl R.sub)
theorem ptb_one {c : Expr} {f : En → Option Bool} (h : PB X c f) : PTs X [c] (DL.tB X.K f) := pts_one h
def compD (p : Pat) (ft : En → Option Bool) (fe : En → Option PyData) (ρ : En) : List PyData → Option (List PyData)
  | [] => some []
  | d :: r => (pm p d ρ).bind fun ρ1 => (ft ρ1).bind fun b => if b then (fe ρ1).bind fun y => (compD p ft fe ρ r).map (y :: ·) else compD p ft fe ρ r
def fLc (vs : List Nat) (fi : En → Option (List PyData)) (p : Pat) (ft : En → Option Bool) (fe : En → Option PyData) : En → Option Sl := fun ρ => (fi ρ).bind fun ds => (compD p ft fe (DL.fgt vs ρ) ds).map .l
theorem lc_reads {vs : List Nat} {fi : En → Option (List PyData)} {p : Pat} {ft : En → Option Bool} {fe : En → Option PyData} (hv : ∀ i ∈ p.slots, i ∈ vs) : ∀ σ H Q, tF K (fLc vs fi p ft fe) σ H Q → tLc (iD false K fi) (gP K p) (DL.tB K ft) (tD K fe) vs σ H Q := fun σ H Q ⟨G, ρ, s, R, e, q⟩ => by
  obtain ⟨ds, e1, e2⟩ := Option.bind_eq_some_iff.mp e
  obtain ⟨res, e3, rfl⟩ := Option.map_eq_some_iff.mp e2
  refine ⟨G, ρ, ds, R, e1, fun J G1 H1 x1 w hz D hD => ?_⟩
  have w' : WalkD K J ds H1 G1 := w
  refine ⟨fun i m H => i ≤ ds.length ∧ m = ds.length - i ∧ ∃ G2 xs out rest, Ext G1 H1 G2 H ∧ H D = some (.lst xs) ∧ G2 D = none ∧ DqAll K G2 xs out ∧ xs.length ≤ i ∧ compD p ft fe (DL.fgt vs ρ) (ds.drop i) = some rest ∧ res = out ++ rest,
    ⟨_, Nat.zero_le _, rfl, G1, [], [], res, .hidden x1.gh hD, upd_same, x1.gh.free hD, .nil, Nat.le_refl _, e3, rfl⟩, ?_⟩
  rintro i m H2 ⟨hi, rfl, G2, xs, out, rest, x2, hDx, gD, hd, hlx, e4, rfl⟩
  by_cases hlt : i < ds.length
  · obtain ⟨d, hdi, hdr⟩ := drop_cons hlt
    rw [hdr, compD] at e4
    obtain ⟨ρ3, e5, e6⟩ := Option.bind_eq_some_iff.mp e4
    obtain ⟨z, e7, e8⟩ := Option.bind_eq_some_iff.mp e6
    refine .inr ⟨w'.goes i H2 hlt x2.hh, fun H' => ∃ G2 xs out' rest', Ext G1 H1 G2 H' ∧ H' D = some (.lst xs) ∧ G2 D = none ∧ DqAll K G2 xs out' ∧ xs.length ≤ i + 1 ∧ compD p ft fe (DL.fgt vs ρ) (ds.drop (i + 1)) = some rest' ∧ out ++ rest = out' ++ rest',
      fun H' ⟨G2, xs, o', r', a1, a2, a3, a4, a5, a6, a7⟩ => ⟨ds.length - (i + 1), by omega, hlt, rfl, G2, xs, o', r', a1, a2, a3, a4, a5, a6, a7⟩, fun x H' y => ?_⟩
    obtain ⟨G3, d', x3, hd', r3⟩ := w'.yields i G2 H2 x H' hlt x2.hh x2.gg x2.gh y
    rw [hdi] at hd'; cases hd'
    have neD : ∀ {H : Hp} {o : HO}, H D = some o → H D ≠ none := fun h z => by rw [h] at z; cases z
    have R3 := (R.ext (x1.trans (x2.trans x3))).wipe vs
    refine ⟨G3, _, d, ρ3, R3, r3, e5, fun σ' r k wv => ⟨by rw [wv vs hv, wipe_idem], G3, ρ3, z, r, e7, fun G4 H4 x4 => ?_⟩⟩
    have hD4 := x4.hh _ _ (x3.hh _ _ hDx)
    have gD4 := x4.hid D (neD (x3.hh _ _ hDx)) (x3.hid D (neD hDx) gD)
    cases z with
    | false => exact iteF ⟨G4, xs, out, rest, x2.trans (x3.trans x4), hD4, gD4, hd.mono (x3.gg.trans x4.gg), by omega, e8, rfl⟩
    | true =>
      obtain ⟨y, e9, e10⟩ := Option.bind_eq_some_iff.mp e8
      obtain ⟨rest', e11, rfl⟩ := Option.map_eq_some_iff.mp e10
      refine iteT ⟨G4, ρ3, y, r.ext x4, e9, fun v G5 H5 x5 r5 => ⟨xs, x5.hh _ _ hD4, by have : xs.length ≤ i := hlx; omega, G5, xs ++ [v], out ++ [y], rest', ?_, upd_same, x5.hid D (neD hD4) gD4, (hd.mono (x3.gg.trans (x4.gg.trans x5.gg))).app (.cons r5 .nil), by rw [List.length_append]; show xs.length + 1 ≤ _; omega, e11, by simp⟩⟩
      have xx := x2.trans (x3.trans (x4.trans x5))
      have gD5 := x5.hid D (neD hD4) gD4
      exact ⟨xx.gg, fun b o z => by rw [upd_ne (ne_of_none z hD)]; exact xx.hh _ _ z, fun b o z => by rw [upd_ne (fun q => by rw [q, gD5] at z; cases z)]; exact xx.gh _ _ z, xx.hid⟩
  · have ei : i = ds.length := by omega
    subst ei
    rw [List.drop_length, compD] at e4
    cases e4
    rw [List.append_nil] at q
    exact .inl ⟨w'.stops H2 x2.hh, q _ G2 H2 (x1.trans x2) (.l gD hDx hd) fun _ a z => by cases z; exact x1.hh.free hD⟩
theorem pf_lc {elt iter : Expr} {ifs : List Expr} {scope : Scope} {own : List (Str × Nat)} {fi : En → Option (List PyData)} {p : Pat} {ft : En → Option Bool} {fe : En → Option PyData} (hc : X.calm = true) (hN : X.N.Nodup) (hi : PId false X tg iter fi) (ok : BlkOk X.N X.env.scope scope own) (hv : ∀ i ∈ p.slots, i ∈ own.map (·.2))
    (hg : ∀ (s : Shared) (H : Hp) (C : Addr) (cl : List (Str × Addr)) (fp : List Addr), PG (X.blk s H scope (compEnvC scope cl C X.env) fp) tg (gP X.K p)) (ht : ∀ (s : Shared) (H : Hp) (C : Addr) (cl : List (Str × Addr)) (fp : List Addr), PTs (X.blk s H scope (compEnvC scope cl C X.env) fp) ifs (DL.tB X.K ft))
    (he : ∀ (s : Shared) (H : Hp) (C : Addr) (cl : List (Str × Addr)) (fp : List Addr), PD (X.blk s H scope (compEnvC scope cl C X.env) fp) elt fe) (hs : ∀ x, foldedSetIterable iter X.env x = pure x := by intro _; rfl) :
    PF X (.ListComp elt [⟨tg, iter, ifs, 0⟩] scope pos) (fLc (own.map (·.2)) fi p ft fe) := pe_con (pe_lc hc hN hi ok hg ht he hs) (lc_reads hv)
theorem sd_setLc {i : Nat} {y : Str} {py spos : Pos} {elt iter : Expr} {ifs : List Expr} {scope : Scope} {own : List (Str × Nat)} {fi : En → Option (List PyData)} {p : Pat} {ft : En → Option Bool} {fe : En → Option PyData} (hc : X.calm = true) (hN : X.N.Nodup) (hy : X.N[i]? = some y) (hyl : X.env.scope.names.lookup y = some .local)
    (hsw : swapsWith (.ListComp elt [⟨tg, iter, ifs, 0⟩] scope pos) (some (.Name y py)) spos.line X.env = pure true) (hi : PId false X tg iter fi) (ok : BlkOk X.N X.env.scope scope own) (hv : ∀ i ∈ p.slots, i ∈ own.map (·.2))
    (hg : ∀ (s : Shared) (H : Hp) (C : Addr) (cl : List (Str × Addr)) (fp : List Addr), PG (X.blk s H scope (compEnvC scope cl C X.env) fp) tg (gP X.K p)) (ht : ∀ (s : Shared) (H : Hp) (C : Addr) (cl : List (Str × Addr)) (fp : List Addr), PTs (X.blk s H scope (compEnvC scope cl C X.env) fp) ifs (DL.tB X.K ft))
    (he : ∀ (s : Shared) (H : Hp) (C : Addr) (cl : List (Str × Addr)) (fp : List Addr), PD (X.blk s H scope (compEnvC scope cl C X.env) fp) elt fe) (hs : ∀ x, foldedSetIterable iter X.env x = pure x := by intro _; rfl) :
    PSD X (.Assign [.Name y py] (.ListComp elt [⟨tg, iter, ifs, 0⟩] scope pos) spos) (gSetF i (fLc (own.map (·.2)) fi p ft fe)) := ps_con (ps_setLc hc hN hy hyl hsw hi ok hg ht he hs) fun D σ H q => by
  have q2 := asg_f D σ H q
  exact lc_reads hv _ _ _ q2
/-- a new list, stored as clean data -/
def gSetL (i : Nat) (f : En → Option Sl) : En → Option Out := fun ρ => (f ρ).bind fun s => match s with
  | .l ds => some (.nx (ρ.set i (some (.p (.list ds)))))
  | _ => none
theorem asg_l {i : Nat} {f : En → Option Sl} : ∀ D σ H, tS K (gSetL i f) D σ H → tAsg (tF K f) (gName i) D σ H := fun D σ H ⟨G0, H0, G, ρ, o, R, e, q⟩ => by
  obtain ⟨s, e1, e2⟩ := Option.bind_eq_some_iff.mp e
  cases s with
  | l ds =>
    cases e2
    refine ⟨G, ρ, _, R.rx, e1, fun v G1 H1 x1 r1 f1 => ?_⟩
    cases r1 with
    | @l a xs _ h1 h2 h3 =>
      have na : H a = none := f1 rfl a rfl
      have x2 : Ext G H (upd G1 a (.lst xs)) H1 := ⟨x1.gg.trans (same_upd h1), x1.hh, fun b o z => by
        by_cases hb : b = a
        · subst hb; rw [upd_same] at z; cases z; exact h2
        · rw [upd_ne hb] at z; exact x1.gh _ _ z, fun b z1 z2 => by rw [upd_ne (fun z => z1 (by rw [z]; exact na))]; exact x1.hid b z1 z2⟩
      obtain ⟨r, k⟩ := (R.rx.ext x2).set i (Dq.lst upd_same (h3.mono (same_upd h1)))
      exact q _ _ H1 ((R.grow x2).kept r k)
  | _ => cases e2
theorem sd_setLcP {i : Nat} {y : Str} {py spos : Pos} {elt iter : Expr} {ifs : List Expr} {scope : Scope} {own : List (Str × Nat)} {fi : En → Option (List PyData)} {p : Pat} {ft : En → Option Bool} {fe : En → Option PyData} (hc : X.calm = true) (hN : X.N.Nodup) (hy : X.N[i]? = some y) (hyl : X.env.scope.names.lookup y = some .local)
    (hsw : swapsWith (.ListComp elt [⟨tg, iter, ifs, 0⟩] scope pos) (some (.Name y py)) spos.line X.env = pure true) (hi : PId false X tg iter fi) (ok : BlkOk X.N X.env.scope scope own) (hv : ∀ i ∈ p.slots, i ∈ own.map (·.2))
    (hg : ∀ (s : Shared) (H : Hp) (C : Addr) (cl : List (Str × Addr)) (fp : List Addr), PG (X.blk s H scope (compEnvC scope cl C X.env) fp) tg (gP X.K p)) (ht : ∀ (s : Shared) (H : Hp) (C : Addr) (cl : List (Str × Addr)) (fp : List Addr), PTs (X.blk s H scope (compEnvC scope cl C X.env) fp) ifs (DL.tB X.K ft))
    (he : ∀ (s : Shared) (H : Hp) (C : Addr) (cl : List (Str × Addr)) (fp : List Addr), PD (X.blk s H scope (compEnvC scope cl C X.env) fp) elt fe) (hs : ∀ x, foldedSetIterable iter X.env x = pure x := by intro _; rfl) :
    PSD X (.Assign [.Name y py] (.ListComp elt [⟨tg, iter, ifs, 0⟩] scope pos) spos) (gSetL i (fLc (own.map (·.2)) fi p ft fe)) := ps_con (ps_setLc hc hN hy hyl hsw hi ok hg ht he hs) fun D σ H q => by
  have q2 := asg_l D σ H q
  exact lc_reads hv _ _ _ q2
end
end DL

set_option Elab.async false
set_option linter.all false
set_option maxRecDepth 100000
/-! The D layer, 8: defs and their calls; stores; dicts. -/
namespace DL
open PySem PySem.Spec PyProof.Rows L2

/-! ### defs -/
/-- a def's promise: F of its arguments' data -/
def spD (K : PySem.W.Frag) (F : List PyData → Option Sl) : Sp := fun vs H Q _ => ∃ G ds s, Same G H ∧ DqAll K G vs ds ∧ F ds = some s ∧
  ∀ v G' H', Ext G H G' H' → DL.SlR K G' H' v s → (s.own = true → ∀ a, v = .ref a → H a = none) → Q v H'
def enStart (n : Nat) (ds : List PyData) : En := ds.map (fun d => some (.p d)) ++ List.replicate (n - ds.length) none
def endD : Out → Option Sl
  | .rt s => some s
  | .nx _ => some (.p .none)
  | _ => none
/-- what a def of np parameters and n names gives, by its body -/
def runD (n np : Nat) (g : En → Option Out) (ds : List PyData) : Option Sl := if ds.length = np then (g (enStart n ds)).bind endD else none
theorem runD_len {n np : Nat} {g : En → Option Out} {ds : List PyData} {s : Sl} (h : runD n np g ds = some s) : ds.length = np := by
  unfold runD at h
  split at h
  · assumption
  · cases h
section
variable {K : PySem.W.Frag} {G H : Hp}
theorem start_rx {N : List Str} {vs : List V} {ds : List PyData} (s : Same G H) (h : DqAll K G vs ds) : Rx K G H (start N vs) (enStart N.length ds) := by
  refine ⟨s, by simp [L2.start, enStart, h.len], fun i t e => ?_, fun i j t u a h1 h2 o1 o2 _ _ => ?_⟩
  · unfold enStart at e
    rw [List.getElem?_append] at e
    split at e
    · next hi =>
      rw [List.length_map] at hi
      rw [List.getElem?_map] at e
      cases hd : ds[i]? with
      | none => rw [hd] at e; cases e
      | some d =>
        rw [hd] at e; cases e
        obtain ⟨v, h1, h2⟩ := h.get hd
        refine ⟨v, ?_, .p h2⟩
        unfold L2.start
        rw [List.getElem?_append_left (by rw [List.length_map, h.len]; exact hi), List.getElem?_map, h1] <;> rfl
    · rw [List.getElem?_replicate] at e
      split at e <;> cases e
  · exfalso
    unfold enStart at h1
    rw [List.getElem?_append] at h1
    split at h1
    · rw [List.getElem?_map] at h1
      cases hd : ds[i]? with
      | none => rw [hd] at h1; cases h1
      | some d => rw [hd] at h1; cases h1; cases o1
    · rw [List.getElem?_replicate] at h1
      split at h1 <;> cases h1
theorem start_rp {N : List Str} {vs : List V} {ds : List PyData} (s : Same G H) (h : DqAll K G vs ds) : Rp K G H G H (start N vs) (enStart N.length ds) := by
  refine ⟨start_rx s h, .refl s, fun i t a h1 o1 _ => ?_⟩
  exfalso
  unfold enStart at h1
  rw [List.getElem?_append] at h1
  split at h1
  · rw [List.getElem?_map] at h1
    cases hd : ds[i]? with
    | none => rw [hd] at h1; cases h1
    | some d => rw [hd] at h1; cases h1; cases o1
  · rw [List.getElem?_replicate] at h1
    split at h1 <;> cases h1
/-- a body's end is what the def promises -/
theorem body_end {g : En → Option Out} {F : List PyData → Option Sl} {N : List Str} {np : Nat} {vs : List V} {Q : VK} {E : XK} (hF : ∀ ds s, F ds = some s → runD N.length np g ds = some s) (h : spD K F vs H Q E) :
    tS K g { nx := fun _ H' => Q .non H', rt := Q } (start N vs) H := by
  obtain ⟨G, ds, s, sm, hd, e, q⟩ := h
  have e := hF ds s e
  unfold runD at e
  split at e
  · obtain ⟨o, e1, e2⟩ := Option.bind_eq_some_iff.mp e
    refine ⟨G, H, G, _, o, start_rp sm hd, e1, ?_⟩
    cases o with
    | nx ρ => cases e2; exact fun σ G' H' R => q _ G' H' R.ext (.p .non) fun z => (nomatch z)
    | rt s' => cases e2; exact q
    | bk ρ => cases e2
    | ct ρ => cases e2
  · cases e
end
section
variable {P : Program} {w : World} {K : PySem.W.Frag} {mg : Str → Option Value} {base : Heap}
/-- THE RULE for a def: F is what its body gives -/
theorem fn_d {x qual : Str} {st : Stmt} {f : Addr} {fd : FuncData} {N ps : List Str} {k : Nat} {g : En → Option Out} {F : List PyData → Option Sl} (Fn : L2.Fun K x qual st f fd) (S : FnScope N ps (defScope st)) (hF : ∀ ds s, F ds = some s → runD N.length ps.length g ds = some s)
    (hb : ∀ (cdv : Value) (A : Around) (outer : List Env) (s : Shared) (H : Hp) (E : XK), Room k (A.deeper (envOfC qual (defScope st) s.heap.objs.size f cdv)) →
      PSSD (cxOf CX0 P w K mg base N qual (defScope st) f cdv A outer s H E).nox (defBody st) g) : FnOk P w K mg base CX0 (k + 1) f fd ps (spD K F) :=
  Fn.ok S (fun vs H Q E ⟨G, ds, s, _, hd, e, _⟩ => by rw [hd.len]; exact runD_len (hF ds s e)) fun cdv A outer s H vs Q E hr h => ⟨_, hb cdv A outer s H E hr, body_end hF h⟩
theorem fn_imp {F F' : List PyData → Option Sl} {k : Nat} {f : Addr} {fd : FuncData} {ps : List Str} (h : FnOk P w K mg base CX0 k f fd ps (spD K F)) (i : ∀ ds s, F' ds = some s → F ds = some s) : FnOk P w K mg base CX0 k f fd ps (spD K F') :=
  h.imp fun vs H Q E ⟨G, ds, s, sm, hd, e, q⟩ => ⟨G, ds, s, sm, hd, i ds s e, q⟩
end
section
variable {X : Cx} {a b c e tg : Expr} {es : List Expr} {pos : Pos} {fa fb fc : En → Option PyData} {fr : En → Option (List PyData)} {k : Nat} {F : List PyData → Option Sl} {f : Addr} {fd : FuncData} {ps : List Str} {x : Str} {p : Pos} {cl : Bool} {g : En → Option Out}
/-- f(e, ..) -/
theorem pf_call (Fn : FnOk X.prog X.w X.K X.mg X.base CX0 k f fd ps (spD X.K F)) (hr : Room k X.A) (hg : Gl X x) (hm : X.mg x = some (.ref f)) (hk : PySem.W.keepIn X.K (.ref f) = true) (hb : Binds X.K fd ps []) (ha : PAr X (e :: es) fr) (hdb : (x == ("__debug__" : Str)) = false := by decide)
    (he : starEach (e :: es) X.env = (false, eval e X.env) :: starEach es X.env := by rfl) (hpl : (backTo pos (starEach es X.env)).any (·.1) = false := by rfl) : PF X (.Call (.Name x p) (e :: es) [] pos) (f1 F fr) := pe_con (pe_call Fn hr hg hm hk hb .nil pass0 ha hdb he hpl) fun σ H Q ⟨G, ρ, s, R, e, q⟩ => by
  obtain ⟨ds, e1, e2⟩ := f1_some e
  refine ⟨G, ρ, ds, R, e1, fun vs G1 H1 x1 r1 => ?_⟩
  show spD X.K F (vs ++ []) H1 Q E0
  rw [List.append_nil]
  exact ⟨G1, ds, s, x1.gh, r1, e2, fun v G' H' x2 r2 f2 => q v G' H' (x1.trans x2) r2 fun o a z => x1.hh.free (f2 o a z)⟩
theorem pd_gcd (hg : Gl X x) (hm : X.mg x = some (.builtin "math.gcd")) (ha : PTp X a fa) (hb : PTp X b fb) (hdb : (x == ("__debug__" : Str)) = false := by decide)
    (he : starEach [a, b] X.env = (false, eval a X.env) :: starEach [b] X.env := by rfl) (he2 : starEach [b] X.env = (false, eval b X.env) :: starEach [] X.env := by rfl) (hpl : (backTo pos (starEach [b] X.env)).any (·.1) = false := by rfl) : PD X (.Call (.Name x p) [a, b] [] pos) (f2 gcdD fa fb) :=
  pe_con (pe_callBfun cr_gcd hg hm (pa_cons ha (pa_cons hb pa_nil he2) he) hdb he hpl) (tCB_d2 (by
    intro G H x y dx dy d Q sm hx hy e q
    unfold gcdD at e
    split at e
    · cases e; rw [hx.int_, hy.int_]; exact ⟨_, _, rfl, q _ G H (.refl sm) (.int _)⟩
    · cases e))

/-! ### stores into own lists -/
theorem rp_write {K : PySem.W.Frag} {G0 H0 G H : Hp} {σ : St} {ρ : En} {i : Nat} {a : Addr} {o : HO} {s s' : Sl} (R : Rp K G0 H0 G H σ ρ) (hi : ρ[i]? = some (some s)) (ow : s.own = true) (hv : σ[i]? = some (some (.ref a))) (hG : G a = none)
    (h' : DL.SlR K G (upd H a o) (.ref a) s') : Rp K G0 H0 G (upd H a o) σ (ρ.set i (some s')) := by
  have ha := R.own i s a hi ow hv
  have hil : i < ρ.length := by
    rcases Nat.lt_or_ge i ρ.length with h | h
    · exact h
    · rw [List.getElem?_eq_none h] at hi; cases hi
  have sub : Same G (upd H a o) := fun b u z => by rw [upd_ne (fun q => by rw [q, hG] at z; cases z)]; exact R.ext.gh _ _ z
  have apart : ∀ j t c, j ≠ i → ρ[j]? = some (some t) → t.own = true → σ[j]? = some (some (.ref c)) → c ≠ a := fun j t c hne hj ot e z => hne (R.rx.apart j i t s a hj hi ot ow (by rw [e, z]) hv)
  refine ⟨⟨sub, by rw [List.length_set]; exact R.rx.len, fun j t hj => ?_, fun j1 j2 t1 t2 c hj1 hj2 o1 o2 k1 k2 => ?_⟩, ⟨R.ext.gg, fun b u z => by rw [upd_ne (ne_of_none z ha)]; exact R.ext.hh _ _ z, sub, R.ext.hid⟩, fun j t c hj ot e => ?_⟩
  · rcases en_set_get hj with ⟨e, _, e2⟩ | ⟨hne, hj⟩
    · cases e2; subst e; exact ⟨_, hv, h'⟩
    · obtain ⟨w, w1, w2⟩ := R.rx.at_ j t hj
      refine ⟨w, w1, ?_⟩
      cases w2 with
      | p h => exact .p h
      | s h => exact .s h
      | q a => exact .q a
      | l f1 f2 f3 => exact .l f1 (by rw [upd_ne (apart j _ _ hne hj rfl w1)]; exact f2) f3
      | k f1 f2 f3 => exact .k f1 (by rw [upd_ne (apart j _ _ hne hj rfl w1)]; exact f2) f3
  · rcases en_set_get hj1 with ⟨e1, _, z1⟩ | ⟨n1, hj1⟩
    · rcases en_set_get hj2 with ⟨e2, _, z2⟩ | ⟨n2, hj2⟩
      · rw [e1, e2]
      · rw [e1, hv] at k1; cases k1
        exact absurd rfl (apart j2 t2 a n2 hj2 o2 k2)
    · rcases en_set_get hj2 with ⟨e2, _, z2⟩ | ⟨n2, hj2⟩
      · rw [e2, hv] at k2; cases k2
        exact absurd rfl (apart j1 t1 a n1 hj1 o1 k1)
      · exact R.rx.apart j1 j2 t1 t2 c hj1 hj2 o1 o2 k1 k2
  · rcases en_set_get hj with ⟨e1, _, z1⟩ | ⟨n1, hj⟩
    · rw [e1, hv] at e; cases e; exact ha
    · exact R.own j t c hj ot e
/-- the own list in slot i -/
def ownL (i : Nat) (ρ : En) : Option (List PyData) := match ρ[i]? with
  | some (some (.l ds)) => some ds
  | _ => none
theorem ownL_at {K : PySem.W.Frag} {G0 H0 G H : Hp} {σ : St} {ρ : En} {i : Nat} {ds : List PyData} (R : Rp K G0 H0 G H σ ρ) (e : ownL i ρ = some ds) : ρ[i]? = some (some (.l ds)) ∧ ∃ a xs, σ[i]? = some (some (.ref a)) ∧ G a = none ∧ H a = some (.lst xs) ∧ DqAll K G xs ds := by
  unfold ownL at e
  split at e
  · next h =>
    cases e
    obtain ⟨v, h1, h2⟩ := R.rx.at_ i _ h
    cases h2 with
    | l f1 f2 f3 => exact ⟨h, _, _, h1, f1, f2, f3⟩
  · cases e
theorem pv_own (i : Nat) (hN : X.N[i]? = some x) (hv : Vis X.env.scope x) (hd : (x == ("__debug__" : Str)) = false) (hcd : (x == ("__classdict__" : Str)) = false) : PE X (.Name x p) (tVar i) := pe_var hN hv hd hcd
/-- x.m(e), m a method of lists that changes x to u of x and e -/
def gOp1 (i : Nat) (u : List PyData → PyData → Option (List PyData)) (fa : En → Option PyData) : En → Option Out := fun ρ => (ownL i ρ).bind fun ds => (fa ρ).bind fun d => (u ds d).map fun ds' => .nx (ρ.set i (some (.l ds')))
def appU (ds : List PyData) (d : PyData) : Option (List PyData) := if ds.length < most then some (ds ++ [d]) else none
theorem sd_append (i : Nat) {x : Str} {xp apos cpos : Pos} (ha : PD X e fa) (hN : X.N[i]? = some x := by rfl) (hv : Vis X.env.scope x := by first | exact Or.inl rfl | exact Or.inr (Or.inl rfl) | exact Or.inr (Or.inr rfl)) (hd : (x == ("__debug__" : Str)) = false := by decide) (hcd : (x == ("__classdict__" : Str)) = false := by decide)
    (hbase : attributeBase (.Name x xp) "append" X.env (eval (.Name x xp) X.env) = eval (.Name x xp) X.env := by rfl)
    (hfew : ((backTo cpos (starEach [e] X.env)).all (fun x => !x.1) && (backToKw cpos (keywordEach [] X.env)).all (fun x => x.1.isSome) && decide (([e] : List Expr).length + ([] : List Keyword).length + (if ([] : List Keyword).isEmpty then 0 else 1) < 30)) = true := by rfl)
    (hline : (apos.endLine == cpos.line) = true := by rfl) (hs : starEach [e] X.env = (false, eval e X.env) :: starEach [] X.env := by rfl) (hpl : (backTo cpos (starEach [] X.env)).any (·.1) = false := by rfl)
    (hsw : swapsWith (.Call (.Attribute (.Name x xp) "append" apos) [e] [] cpos) none pos.line X.env = pure false := by rfl) : PSD X (.Expr (.Call (.Attribute (.Name x xp) "append" apos) [e] [] cpos) pos) (gOp1 i appU fa) :=
  ps_con (ps_expr (pe_bm PySem.F.plainAttrs_list PySem.F.slot_list_append PySem.F.type_list_append mt_append (pv_own i hN hv hd hcd) (pa_cons ha pa_nil hs) hbase hfew hline hs hpl) hsw) fun D σ H ⟨G0, H0, G, ρ, o, R, e, q⟩ => by
    obtain ⟨ds, e1, e2⟩ := Option.bind_eq_some_iff.mp e
    obtain ⟨d, e3, e4⟩ := Option.bind_eq_some_iff.mp e2
    obtain ⟨ds', e5, rfl⟩ := Option.map_eq_some_iff.mp e4
    obtain ⟨h1, a, xs, h2, h3, h4, h5⟩ := ownL_at R e1
    refine ⟨_, h2, .inl ⟨rfl, _, .of h4⟩, G, ρ, d, R.rx, e3, fun v G1 H1 x1 r1 => ?_⟩
    unfold appU at e5
    split at e5
    · next hz =>
      cases e5
      have R1 := R.grow x1
      have g1 : G1 a = none := x1.hid a (by rw [h4]; exact fun z => nomatch z) h3
      refine ⟨a, xs, v, rfl, rfl, x1.hh _ _ h4, most_lt (by rw [h5.len]; exact Nat.le_of_lt hz), q σ G1 _ (rp_write R1 h1 rfl h2 g1 (.l g1 upd_same ((h5.mono x1.gg).app (.cons r1 .nil))))⟩
    · cases e5
def extU (ds : List PyData) (d : PyData) : Option (List PyData) := match d with
  | .list es => if ds.length + es.length ≤ most then some (ds ++ es) else none
  | _ => none
theorem sd_extend (i : Nat) {x : Str} {xp apos cpos : Pos} (ha : PD X e fa) (hN : X.N[i]? = some x := by rfl) (hv : Vis X.env.scope x := by first | exact Or.inl rfl | exact Or.inr (Or.inl rfl) | exact Or.inr (Or.inr rfl)) (hd : (x == ("__debug__" : Str)) = false := by decide) (hcd : (x == ("__classdict__" : Str)) = false := by decide)
    (hbase : attributeBase (.Name x xp) "extend" X.env (eval (.Name x xp) X.env) = eval (.Name x xp) X.env := by rfl)
    (hfew : ((backTo cpos (starEach [e] X.env)).all (fun x => !x.1) && (backToKw cpos (keywordEach [] X.env)).all (fun x => x.1.isSome) && decide (([e] : List Expr).length + ([] : List Keyword).length + (if ([] : List Keyword).isEmpty then 0 else 1) < 30)) = true := by rfl)
    (hline : (apos.endLine == cpos.line) = true := by rfl) (hs : starEach [e] X.env = (false, eval e X.env) :: starEach [] X.env := by rfl) (hpl : (backTo cpos (starEach [] X.env)).any (·.1) = false := by rfl)
    (hsw : swapsWith (.Call (.Attribute (.Name x xp) "extend" apos) [e] [] cpos) none pos.line X.env = pure false := by rfl) : PSD X (.Expr (.Call (.Attribute (.Name x xp) "extend" apos) [e] [] cpos) pos) (gOp1 i extU fa) :=
  ps_con (ps_expr (pe_bm PySem.F.plainAttrs_list PySem.F.slot_list_extend PySem.F.type_list_extend mt_extend (pv_own i hN hv hd hcd) (pa_cons ha pa_nil hs) hbase hfew hline hs hpl) hsw) fun D σ H ⟨G0, H0, G, ρ, o, R, e, q⟩ => by
    obtain ⟨ds, e1, e2⟩ := Option.bind_eq_some_iff.mp e
    obtain ⟨d, e3, e4⟩ := Option.bind_eq_some_iff.mp e2
    obtain ⟨ds', e5, rfl⟩ := Option.map_eq_some_iff.mp e4
    obtain ⟨h1, a, xs, h2, h3, h4, h5⟩ := ownL_at R e1
    refine ⟨_, h2, .inl ⟨rfl, _, .of h4⟩, G, ρ, d, R.rx, e3, fun v G1 H1 x1 r1 => ?_⟩
    unfold extU at e5
    split at e5
    · split at e5
      · next hz =>
        cases e5
        have R1 := R.grow x1
        have g1 : G1 a = none := x1.hid a (by rw [h4]; exact fun z => nomatch z) h3
        cases r1 with
        | lst k1 k2 =>
          refine ⟨a, _, xs, _, rfl, rfl, x1.hh _ _ h4, x1.gh _ _ k1, most_line (by rw [h5.len, k2.len]; exact hz), q σ G1 _ (rp_write R1 h1 rfl h2 g1 (.l g1 upd_same ((h5.mono x1.gg).app k2)))⟩
      · cases e5
    · cases e5
/-- x[i] = e, x an own list -/
def gStore (i : Nat) (fb fa : En → Option PyData) : En → Option Out := fun ρ => (fa ρ).bind fun d => (ownL i ρ).bind fun ds => (fb ρ).bind fun k => match k with
  | .int k => (ixN ds.length k).map fun j => .nx (ρ.set i (some (.l (ds.set j d))))
  | _ => none
theorem sd_store (i : Nat) {x : Str} {xp sp : Pos} (hb : PD X b fb) (ha : PD X e fa) (hN : X.N[i]? = some x := by rfl) (hv : Vis X.env.scope x := by first | exact Or.inl rfl | exact Or.inr (Or.inl rfl) | exact Or.inr (Or.inr rfl)) (hd : (x == ("__debug__" : Str)) = false := by decide) (hcd : (x == ("__classdict__" : Str)) = false := by decide)
    (hpg : ∀ v, assign (.Subscript (.Name x xp) b sp) X.env v = (do
      let ov ← holding [v] (eval (.Name x xp) X.env)
      let iv ← holding [v, ov] (eval b X.env)
      standAt sp
      holding [v, ov, iv] (setItem ov iv v)
      release [v, ov, iv] []) := by intro _; rfl)
    (hs : swapsWithSole [.Subscript (.Name x xp) b sp] e pos.line X.env = pure false := by rfl) (hw : swappedStores [.Subscript (.Name x xp) b sp] e X.env = pure none := by rfl) (h1 : (assignEach [.Subscript (.Name x xp) b sp] X.env).map (·.2) = [assign (.Subscript (.Name x xp) b sp) X.env] := by rfl) :
    PSD X (.Assign [.Subscript (.Name x xp) b sp] e pos) (gStore i fb fa) := ps_con (ps_asg ha (pg_sub (pv_own i hN hv hd hcd) hb set_list hpg) hs hw h1) fun D σ H ⟨G0, H0, G, ρ, o, R, e, q⟩ => by
  obtain ⟨d, e3, e4⟩ := Option.bind_eq_some_iff.mp e
  obtain ⟨ds, e1, e2⟩ := Option.bind_eq_some_iff.mp e4
  obtain ⟨kd, e5, e6⟩ := Option.bind_eq_some_iff.mp e2
  refine ⟨G, ρ, d, R.rx, e3, fun v G1 H1 x1 r1 => ?_⟩
  have R1 := R.grow x1
  obtain ⟨h1, a, xs, h2, h3, h4, h5⟩ := ownL_at R1 e1
  refine ⟨_, h2, G1, ρ, kd, R1.rx, e5, fun u G2 H2 x2 r2 => ?_⟩
  cases kd with
  | int kk =>
    obtain ⟨j, e7, rfl⟩ := Option.map_eq_some_iff.mp e6
    cases r2
    have R2 := R1.grow x2
    have g2 : G2 a = none := x2.hid a (by rw [h4]; exact fun z => nomatch z) h3
    refine ⟨a, xs, kk, j, rfl, rfl, x2.hh _ _ h4, by rw [h5.len]; exact e7, q σ G2 _ (rp_write R2 h1 rfl h2 g2 (.l g2 upd_same ((h5.mono x2.gg).set (r1.mono x2.gg) j)))⟩
  | _ => cases e6
end
end DL

set_option Elab.async false
set_option linter.all false
set_option maxRecDepth 100000
/-! The D layer, 9: dicts with int and text keys; the script. -/
namespace DL
open PySem PySem.Spec PyProof.Rows L2

/-! ### dicts as data -/
abbrev Kvs := List (PyData × PyData)
def keyK : PyData → Option K2
  | .int i => some (.inl i)
  | .str x => some (.inr x)
  | _ => none
def kD : K2 → PyData
  | .inl i => .int i
  | .inr x => .str x
theorem keyK_kD (k : K2) : keyK (kD k) = some k := by cases k <;> rfl
def lookK (ds : Kvs) (k : K2) : Option PyData := (ds.find? fun p => decide (keyK p.1 = some k)).map (·.2)
def hasK (ds : Kvs) (k : K2) : Bool := ds.any fun p => decide (keyK p.1 = some k)
def putD (ds : Kvs) (k : K2) (v : PyData) : Kvs := if hasK ds k = true then ds.map (fun p => if keyK p.1 = some k then (p.1, v) else p) else ds ++ [(kD k, v)]
def dropD (ds : Kvs) (k : K2) : Kvs := ds.filter fun p => decide (keyK p.1 ≠ some k)
section
variable {K : PySem.W.Frag} {G H : Hp}
theorem DqKv.cons' {k : K2} {v : V} {ks : List (K2 × V)} {d : PyData} {ds : Kvs} (h : Dq K G v d) (t : DqKv K G ks ds) : DqKv K G ((k, v) :: ks) ((kD k, d) :: ds) := by
  cases k with
  | inl i => exact .int h t
  | inr x => exact .str h t
theorem DqKv.rec' {P : List (K2 × V) → Kvs → Prop} (h0 : P [] []) (h1 : ∀ k v ks d ds, Dq K G v d → DqKv K G ks ds → P ks ds → P ((k, v) :: ks) ((kD k, d) :: ds)) : ∀ {ks : List (K2 × V)} {ds : Kvs}, DqKv K G ks ds → P ks ds
  | _, _, .nil => h0
  | _, _, .int h t => h1 (.inl _) _ _ _ _ h t (DqKv.rec' h0 h1 t)
  | _, _, .str h t => h1 (.inr _) _ _ _ _ h t (DqKv.rec' h0 h1 t)
theorem DqKv.len {ks : List (K2 × V)} {ds : Kvs} (h : DqKv K G ks ds) : ks.length = ds.length := DqKv.rec' (P := fun ks ds => ks.length = ds.length) rfl (fun _ _ _ _ _ _ _ e => by simp [e]) h
theorem DqKv.look {ks : List (K2 × V)} {ds : Kvs} (h : DqKv K G ks ds) (k : K2) : (valV ks k = none ∧ lookK ds k = none) ∨ ∃ v d, valV ks k = some v ∧ lookK ds k = some d ∧ Dq K G v d := by
  refine DqKv.rec' (P := fun ks ds => (valV ks k = none ∧ lookK ds k = none) ∨ ∃ v d, valV ks k = some v ∧ lookK ds k = some d ∧ Dq K G v d) (.inl ⟨rfl, rfl⟩) (fun k' v ks d ds hv _ ih => ?_) h
  by_cases e : k' = k
  · subst e
    refine .inr ⟨v, d, valV_pos rfl, ?_, hv⟩
    simp [lookK, keyK_kD]
  · have e1 : valV ((k', v) :: ks) k = valV ks k := valV_neg e
    have e2 : lookK ((kD k', d) :: ds) k = lookK ds k := by simp [lookK, keyK_kD, e]
    rw [e1, e2]; exact ih
theorem DqKv.has {ks : List (K2 × V)} {ds : Kvs} (h : DqKv K G ks ds) (k : K2) : (ks.any fun kv => decide (kv.1 = k)) = hasK ds k := by
  refine DqKv.rec' (P := fun ks ds => (ks.any fun kv => decide (kv.1 = k)) = hasK ds k) rfl (fun k' v ks d ds hv _ ih => ?_) h
  simp only [List.any_cons, hasK, keyK_kD, Option.some.injEq]
  rw [ih]; rfl
theorem DqKv.put {ks : List (K2 × V)} {ds : Kvs} (h : DqKv K G ks ds) (k : K2) {v : V} {d : PyData} (hv : Dq K G v d) : DqKv K G (putK ks k v) (putD ds k d) := by
  unfold putK putD
  rw [h.has k]
  split
  · refine DqKv.rec' (P := fun ks ds => DqKv K G (ks.map fun kv => if kv.1 = k then (kv.1, v) else kv) (ds.map fun p => if keyK p.1 = some k then (p.1, d) else p)) .nil (fun k' v' ks d' ds hv' _ ih => ?_) h
    rw [List.map_cons, List.map_cons]
    by_cases e : k' = k
    · simp only [keyK_kD, e, if_true]
      exact .cons' hv ih
    · simp only [keyK_kD, e, Option.some.injEq, if_false]
      exact .cons' hv' ih
  · refine DqKv.rec' (P := fun ks ds => DqKv K G (ks ++ [(k, v)]) (ds ++ [(kD k, d)])) (.cons' hv .nil) (fun k' v' ks d' ds hv' _ ih => .cons' hv' ih) h
theorem DqKv.drop {ks : List (K2 × V)} {ds : Kvs} (h : DqKv K G ks ds) (k : K2) : DqKv K G (dropK ks k) (dropD ds k) := by
  unfold dropK dropD
  refine DqKv.rec' (P := fun ks ds => DqKv K G (ks.filter fun kv => decide (kv.1 ≠ k)) (ds.filter fun p => decide (keyK p.1 ≠ some k))) .nil (fun k' v' ks d' ds hv' _ ih => ?_) h
  by_cases e : k' = k
  · simp only [List.filter_cons, keyK_kD, e, ne_eq, not_true, decide_false]; exact ih
  · have e' : ¬ some k' = some k := fun z => e (Option.some.inj z)
    simp only [List.filter_cons, keyK_kD, ne_eq, e, e', not_false_iff, decide_true, if_true]; exact .cons' hv' ih
theorem DqKv.at_ {ks : List (K2 × V)} {ds : Kvs} (h : DqKv K G ks ds) : ∀ (i : Nat) (k : K2) (v : V), ks[i]? = some (k, v) → ∃ d, ds[i]? = some (kD k, d) ∧ Dq K G v d := by
  refine DqKv.rec' (P := fun ks ds => ∀ (i : Nat) (k : K2) (v : V), ks[i]? = some (k, v) → ∃ d, ds[i]? = some (kD k, d) ∧ Dq K G v d) (fun i k v e => by simp at e) (fun k' v' ks d' ds hv' _ ih i k v e => ?_) h
  cases i with
  | zero => simp at e; obtain ⟨rfl, rfl⟩ := e; exact ⟨d', rfl, hv'⟩
  | succ i => simp at e; obtain ⟨d, h1, h2⟩ := ih i k v e; exact ⟨d, by simpa using h1, h2⟩
theorem key_v {v : V} {d : PyData} {k : K2} (h : Dt K G H v d) (e : keyK d = some k) : v = kV k := by
  cases d with
  | int i => cases e; exact h.int_
  | str x => cases e; exact h.str_
  | _ => cases e
end
section
variable {X : Cx} {a b c e tg : Expr} {es : List Expr} {pos : Pos} {fa fb fc : En → Option PyData} {k : Nat} {x : Str} {p : Pos} {K : PySem.W.Frag}
def kvOf : PyData → Option Kvs
  | .dict ds => some ds
  | _ => none
theorem kvOf_some {d : PyData} {ds : Kvs} (e : kvOf d = some ds) : d = .dict ds := by
  cases d <;> simp [kvOf] at e
  rw [e]
def getD2 (fa fb fc : En → Option PyData) : En → Option PyData := fun ρ => (fa ρ).bind fun x => (kvOf x).bind fun ds => (fb ρ).bind fun k => (keyK k).bind fun k => (fc ρ).map fun z => (lookK ds k).getD z
theorem hu1 {A : Around} (hr : Room k A) : A.units + 1 < cLine := hu_of hr
/-- d.get(k, x) -/
theorem pd_get2 {apos cpos : Pos} (hr : Room k X.A) (ha : PTp X a fa) (hb : PTp X b fb) (hc : PD X c fc) (m : M2 X a "get" apos b c cpos := by exact ⟨rfl, rfl, rfl, rfl⟩) : PD X (.Call (.Attribute a "get" apos) [b, c] [] cpos) (getD2 fa fb fc) :=
  pe_con (pe_dget2 (hu1 hr) ha hb hc m) fun σ H Q ⟨G, ρ, d, R, e, q⟩ => by
    obtain ⟨dx, e1, e⟩ := Option.bind_eq_some_iff.mp e
    obtain ⟨ds, e2, e⟩ := Option.bind_eq_some_iff.mp e
    obtain ⟨dk, e3, e⟩ := Option.bind_eq_some_iff.mp e
    obtain ⟨kk, e4, e⟩ := Option.bind_eq_some_iff.mp e
    obtain ⟨dz, e5, rfl⟩ := Option.map_eq_some_iff.mp e
    obtain rfl := kvOf_some e2
    refine ⟨G, ρ, _, R, e1, fun v G1 H1 x1 r1 => ?_⟩
    obtain ⟨ad, ks, rfl, h1, h2⟩ := r1.dic_ x1.gh
    refine ⟨ad, rfl, .inl ⟨ks, h1⟩, G1, ρ, dk, R.ext x1, e3, fun u G2 H2 x2 r2 => ⟨G2, ρ, dz, R.ext (x1.trans x2), e5, fun w G3 H3 x3 r3 => ?_⟩⟩
    obtain rfl := key_v r2 e4
    have h1' : Rd H3 ad (.dK ks) := by
      rcases h1 with h1 | ⟨o, h1⟩
      · exact .inl (x3.hh _ _ (x2.hh _ _ h1))
      · exact .inr ⟨o, x3.hh _ _ (x2.hh _ _ h1)⟩
    refine ⟨valV ks kk, .inl ⟨ks, kk, h1', rfl, rfl⟩, ?_⟩
    have h2' := h2.mono (x2.gg.trans x3.gg)
    rcases h2'.look kk with ⟨z1, z2⟩ | ⟨v', d', z1, z2, z3⟩
    · rw [z2] at q; rw [z1]; exact q _ G3 H3 (x1.trans (x2.trans x3)) r3
    · rw [z2] at q; rw [z1]; exact q _ G3 H3 (x1.trans (x2.trans x3)) z3
/-- d[k] -/
def getI (x k : PyData) : Option PyData := (kvOf x).bind fun ds => (keyK k).bind fun k => lookK ds k
theorem pd_getI (hr : Room k X.A) (ha : PTp X a fa) (hb : PTp X b fb) (hs : NoSl b := by exact fun _ _ => rfl) : PD X (.Subscript a b pos) (f2 getI fa fb) := pe_con (pe_dget (hu1 hr) ha hb hs) fun σ H Q ⟨G, ρ, d, R, e, q⟩ => by
  obtain ⟨dx, dk, e1, e2, e5⟩ := f2_some e
  obtain ⟨ds, e3, e6⟩ := Option.bind_eq_some_iff.mp e5
  obtain ⟨kk, e4, e7⟩ := Option.bind_eq_some_iff.mp e6
  obtain rfl := kvOf_some e3
  refine ⟨G, ρ, _, R, e1, fun v G1 H1 x1 r1 => ⟨G1, ρ, dk, R.ext x1, e2, fun u G2 H2 x2 r2 => ?_⟩⟩
  obtain ⟨ad, ks, rfl, h1, h2⟩ := (r1.ext x2).dic_ x2.gh
  obtain rfl := key_v r2 e4
  rcases h2.look kk with ⟨z1, z2⟩ | ⟨v', d', z1, z2, z3⟩
  · rw [z2] at e7; cases e7
  · rw [z2] at e7; cases e7
    exact ⟨ad, v', rfl, .inl ⟨ks, kk, h1, rfl, z1.symm⟩, q _ G2 H2 (x1.trans x2) z3⟩
/-- k in d, k not in d -/
def inK (k x : PyData) : Option Bool := (kvOf x).bind fun ds => (keyK k).map fun k => (lookK ds k).isSome
def inKD (k x : PyData) : Option PyData := (inK k x).map .bool
def notinKD (k x : PyData) : Option PyData := (inK k x).map fun z => .bool (!z)
theorem in_reads : ∀ σ H Q, tD K (f2 inKD fb fa) σ H Q → tDIn (tT K fb) (tT K fa) σ H Q := fun σ H Q ⟨G, ρ, d, R, e, q⟩ => by
  obtain ⟨dk, dx, e2, e1, e5⟩ := f2_some e
  obtain ⟨z, e6, rfl⟩ := Option.map_eq_some_iff.mp e5
  obtain ⟨ds, e3, e7⟩ := Option.bind_eq_some_iff.mp e6
  obtain ⟨kk, e4, rfl⟩ := Option.map_eq_some_iff.mp e7
  obtain rfl := kvOf_some e3
  refine ⟨G, ρ, dk, R, e2, fun u G1 H1 x1 r1 => ⟨G1, ρ, _, R.ext x1, e1, fun v G2 H2 x2 r2 => ?_⟩⟩
  obtain ⟨ad, ks, rfl, h1, h2⟩ := r2.dic_ x2.gh
  obtain rfl := key_v r1 e4
  refine ⟨ad, valV ks kk, rfl, .inl ⟨ks, kk, h1, rfl, rfl⟩, ?_⟩
  rcases h2.look kk with ⟨z1, z2⟩ | ⟨v', d', z1, z2, z3⟩
  · rw [z2] at q; rw [z1]; exact q _ G2 H2 (x1.trans x2) (.bl _)
  · rw [z2] at q; rw [z1]; exact q _ G2 H2 (x1.trans x2) (.bl _)
theorem notin_reads : ∀ σ H Q, tD K (f2 notinKD fb fa) σ H Q → tDNotIn (tT K fb) (tT K fa) σ H Q := fun σ H Q ⟨G, ρ, d, R, e, q⟩ => by
  obtain ⟨dk, dx, e2, e1, e5⟩ := f2_some e
  obtain ⟨z, e6, rfl⟩ := Option.map_eq_some_iff.mp e5
  obtain ⟨ds, e3, e7⟩ := Option.bind_eq_some_iff.mp e6
  obtain ⟨kk, e4, rfl⟩ := Option.map_eq_some_iff.mp e7
  obtain rfl := kvOf_some e3
  refine ⟨G, ρ, dk, R, e2, fun u G1 H1 x1 r1 => ⟨G1, ρ, _, R.ext x1, e1, fun v G2 H2 x2 r2 => ?_⟩⟩
  obtain ⟨ad, ks, rfl, h1, h2⟩ := r2.dic_ x2.gh
  obtain rfl := key_v r1 e4
  refine ⟨ad, valV ks kk, rfl, .inl ⟨ks, kk, h1, rfl, rfl⟩, ?_⟩
  rcases h2.look kk with ⟨z1, z2⟩ | ⟨v', d', z1, z2, z3⟩
  · rw [z2] at q; rw [z1]; exact q _ G2 H2 (x1.trans x2) (.bl _)
  · rw [z2] at q; rw [z1]; exact q _ G2 H2 (x1.trans x2) (.bl _)
theorem pd_inK (hr : Room k X.A) (hb : PTp X b fb) (ha : PTp X a fa) (hm : behindInMarks .In a = false := by rfl) : PD X (.Compare b [.In] [a] pos) (f2 inKD fb fa) := pe_con (pe_cmp (pc_din (hu1 hr) hb ha) hm) in_reads
theorem pd_notinK (hr : Room k X.A) (hb : PTp X b fb) (ha : PTp X a fa) (hm : behindInMarks .NotIn a = false := by rfl) : PD X (.Compare b [.NotIn] [a] pos) (f2 notinKD fb fa) := pe_con (pe_cmp (pc_dnotin (hu1 hr) hb ha) hm) notin_reads
theorem tB_d {t : TE} {f : En → Option PyData} (h : ∀ σ H Q, tD K f σ H Q → t σ H Q) : ∀ σ H Q, DL.tB K (f1 bo f) σ H Q → L2.tB t σ H Q := fun σ H Q ⟨G, ρ, z, R, e, q⟩ => by
  obtain ⟨d, e1, e2⟩ := f1_some e
  obtain rfl := bo_some e2
  exact h _ _ _ ⟨G, ρ, _, R, e1, fun v G' H' x r => by cases r; exact ⟨_, rfl, q G' H' x⟩⟩
theorem pb_inK (hr : Room k X.A) (hb : PTp X b fb) (ha : PTp X a fa) (hm : behindInMarks .In a = false := by rfl) : PB X (.Compare b [.In] [a] pos) (f1 bo (f2 inKD fb fa)) := pt_con (pt_cmp (pc_din (hu1 hr) hb ha) hm) (tB_d in_reads)
theorem pb_notinK (hr : Room k X.A) (hb : PTp X b fb) (ha : PTp X a fa) (hm : behindInMarks .NotIn a = false := by rfl) : PB X (.Compare b [.NotIn] [a] pos) (f1 bo (f2 notinKD fb fa)) := pt_con (pt_cmp (pc_dnotin (hu1 hr) hb ha) hm) (tB_d notin_reads)
/-- {} -/
theorem new_dict {G H : Hp} {p : Addr} {ks : List (K2 × V)} {ds : Kvs} (s : Same G H) (hp : H p = none) (h : DqKv K G ks ds) :
    Ext G H G (upd H p (.dK ks)) ∧ DL.SlR K G (upd H p (.dK ks)) (.ref p) (.k ds) ∧ ((Sl.k ds).own = true → ∀ a, V.ref p = .ref a → H a = none) :=
  ⟨.hidden s hp, .k (s.free hp) upd_same h, fun _ a z => by cases z; exact hp⟩
theorem pf_dnew : PF X (.Dict [] [] pos) (fun _ => some (.k [])) := pe_con pe_dnewK fun σ H Q ⟨G, ρ, s, R, e, q⟩ p hp => by
  cases e
  obtain ⟨h1, h2, h3⟩ := new_dict R.sub hp (.nil (K := X.K))
  exact q _ _ _ h1 h2 h3
/-- {k: v} -/
def disp1 (fb fa : En → Option PyData) : En → Option Sl := fun ρ => (fb ρ).bind fun k => (keyK k).bind fun k => (fa ρ).map fun d => .k [(kD k, d)]
theorem pf_disp1 (hb : PD X b fb) (ha : PD X a fa) : PF X (.Dict [some b] [a] pos) (disp1 fb fa) := pe_con (pe_disp (pps_cons hb ha pps_nil) rfl rfl (fun z => by cases z) (by show 1 ≤ 15; decide)) fun σ H Q ⟨G, ρ, s, R, e, q⟩ p hp => by
  obtain ⟨dk, e1, e⟩ := Option.bind_eq_some_iff.mp e
  obtain ⟨kk, e2, e⟩ := Option.bind_eq_some_iff.mp e
  obtain ⟨d, e3, rfl⟩ := Option.map_eq_some_iff.mp e
  have x0 : Ext G H G (upd H p (.dK [])) := .hidden R.sub hp
  refine ⟨G, ρ, dk, R.ext x0, e1, fun u G1 H1 x1 r1 => ⟨G1, ρ, d, R.ext (x0.trans x1), e3, fun v G2 H2 x2 r2 => ⟨x2.hh _ _ (x1.hh _ _ upd_same), [(kk, v)], ?_, by show 1 ≤ 15; decide, ?_⟩⟩⟩
  · rw [key_v (.p r1 : Dt X.K G1 H1 u dk) e2]; rfl
  · have xx := x0.trans (x1.trans x2)
    have gp : G2 p = none := (x1.trans x2).hid p (by rw [upd_same]; exact fun z => nomatch z) (R.sub.free hp)
    refine q _ G2 _ ⟨xx.gg, fun c o z => by rw [upd_ne (ne_of_none z hp)]; exact xx.hh _ _ z, fun c o z => by rw [upd_ne (fun w => by rw [w, gp] at z; cases z)]; exact xx.gh _ _ z, xx.hid⟩ (.k gp upd_same ?_) fun _ a z => by cases z; exact hp
    show DqKv X.K G2 [(kk, v)] [(kD kk, d)]
    exact .cons' r2 .nil
/-- d[k] = v, d an own dict -/
def ownK (i : Nat) (ρ : En) : Option Kvs := match ρ[i]? with
  | some (some (.k ds)) => some ds
  | _ => none
theorem ownK_at {G0 H0 G H : Hp} {σ : St} {ρ : En} {i : Nat} {ds : Kvs} (R : Rp K G0 H0 G H σ ρ) (e : ownK i ρ = some ds) : ρ[i]? = some (some (.k ds)) ∧ ∃ a ks, σ[i]? = some (some (.ref a)) ∧ G a = none ∧ H a = some (.dK ks) ∧ DqKv K G ks ds := by
  unfold ownK at e
  split at e
  · next h =>
    cases e
    obtain ⟨v, h1, h2⟩ := R.rx.at_ i _ h
    cases h2 with
    | k f1 f2 f3 => exact ⟨h, _, _, h1, f1, f2, f3⟩
  · cases e
def gPut (i : Nat) (fb fa : En → Option PyData) : En → Option Out := fun ρ => (fa ρ).bind fun d => (ownK i ρ).bind fun ds => (fb ρ).bind fun k => (keyK k).bind fun k => if ds.length < most then some (.nx (ρ.set i (some (.k (putD ds k d))))) else none
theorem sd_put (i : Nat) {x : Str} {xp sp : Pos} (hr : Room k X.A) (hb : PTp X b fb) (ha : PD X e fa) (hN : X.N[i]? = some x := by rfl) (hv : Vis X.env.scope x := by first | exact Or.inl rfl | exact Or.inr (Or.inl rfl) | exact Or.inr (Or.inr rfl)) (hd : (x == ("__debug__" : Str)) = false := by decide) (hcd : (x == ("__classdict__" : Str)) = false := by decide)
    (hs : swapsWith e (some (.Subscript (.Name x xp) b sp)) pos.line X.env = pure false := by rfl) : PSD X (.Assign [.Subscript (.Name x xp) b sp] e pos) (gPut i fb fa) := ps_con (ps_dput (hu1 hr) (pv_own i hN hv hd hcd) hb ha hs) fun D σ H ⟨G0, H0, G, ρ, o, R, e, q⟩ => by
  obtain ⟨d, e1, e⟩ := Option.bind_eq_some_iff.mp e
  obtain ⟨ds, e2, e⟩ := Option.bind_eq_some_iff.mp e
  obtain ⟨dk, e3, e⟩ := Option.bind_eq_some_iff.mp e
  obtain ⟨kk, e4, e⟩ := Option.bind_eq_some_iff.mp e
  split at e
  · next hz =>
    cases e
    refine ⟨G, ρ, d, R.rx, e1, fun v G1 H1 x1 r1 => ?_⟩
    have R1 := R.grow x1
    obtain ⟨h1, a, ks, h2, h3, h4, h5⟩ := ownK_at R1 e2
    refine ⟨_, h2, G1, ρ, dk, R1.rx, e3, fun u G2 H2 x2 r2 => ?_⟩
    obtain rfl := key_v r2 e4
    have R2 := R1.grow x2
    have g2 : G2 a = none := x2.hid a (by rw [h4]; exact fun z => nomatch z) h3
    exact ⟨a, _, rfl, .k (x2.hh _ _ h4) (most_lt (by rw [h5.len]; exact Nat.le_of_lt hz)), q σ G2 _ (rp_write R2 h1 rfl h2 g2 (.k g2 upd_same ((h5.mono x2.gg).put kk (r1.mono x2.gg))))⟩
  · cases e
/-- dict(d) -/
def dictS (d : PyData) : Option Sl := (kvOf d).map .k
theorem cf_dict : CallF X (.type "dict") dictS := ⟨_, call_dictD, by
  intro G H x dx s Q sm hx e q
  obtain ⟨ds, e1, rfl⟩ := Option.map_eq_some_iff.mp e
  obtain rfl := kvOf_some e1
  obtain ⟨a, ks, rfl, h1, h2⟩ := hx.dic_ sm
  refine ⟨a, ks, rfl, h1, fun p hp => ?_⟩
  obtain ⟨k1, k2, k3⟩ := new_dict sm hp h2
  exact q _ _ _ k1 k2 k3⟩
/-! ### dicts walked: clean ones -/
def itemL (ds : Kvs) : List PyData := ds.map fun p => .tuple [p.1, p.2]
theorem kD_dq {G : Hp} (k : K2) : Dq K G (kV k) (kD k) := by
  cases k with
  | inl i => exact .int i
  | inr x => exact .str x
theorem walkd_items {d : Addr} {o : Obj} {ks : List (K2 × V)} {ds : Kvs} {W G : Hp} (h : W d = some (.frz o (.dK ks))) (hd : DqKv K G ks ds) : WalkD K (Iti d o ks) (itemL ds) W G := by
  have hl : (itemL ds).length = ks.length := by simp [itemL, hd.len]
  refine ⟨fun i H hi s => (walk_items (d := d) (o := o) (kvs := ks)).goes i H (by rw [← hl]; exact hi) (s _ _ h), fun H s => by rw [hl]; exact (walk_items (d := d) (o := o) (kvs := ks)).stops H (s _ _ h), fun i G' H x H' hi s g1 g2 y => ?_⟩
  obtain ⟨T, u, w, rfl, hT, rfl, e1, e2⟩ := (walk_items (d := d) (o := o) (kvs := ks)).yields i H x H' (by rw [← hl]; exact hi) (s _ _ h) y
  obtain ⟨⟨k1, v1⟩, f1, f2⟩ := Option.map_eq_some_iff.mp e1
  have e2' : (ks[i]?.map Prod.snd) = some w := e2
  rw [f1] at e2'
  cases e2'; cases f2
  obtain ⟨dd, f3, f4⟩ := hd.at_ i _ _ f1
  obtain ⟨k2, k3⟩ := pair_new g2 hT (kD_dq k1) (f4.mono g1)
  exact ⟨_, _, k2, by simp [itemL, f3], k3⟩
theorem walkd_keys {d : Addr} {o : Obj} {ks : List (K2 × V)} {ds : Kvs} {W G : Hp} (h : W d = some (.frz o (.dK ks))) (hd : DqKv K G ks ds) : WalkD K (Itk d o ks) (ds.map (·.1)) W G := by
  have hl : (ds.map (·.1)).length = ks.length := by simp [hd.len]
  refine ⟨fun i H hi s => (walk_keys (d := d) (o := o) (kvs := ks)).goes i H (by rw [← hl]; exact hi) (s _ _ h), fun H s => by rw [hl]; exact (walk_keys (d := d) (o := o) (kvs := ks)).stops H (s _ _ h), fun i G' H x H' hi s g1 g2 y => ?_⟩
  obtain ⟨rfl, k1, v1, f1, rfl⟩ := (walk_keys (d := d) (o := o) (kvs := ks)).yields i H x H' (by rw [← hl]; exact hi) (s _ _ h) y
  obtain ⟨dd, f3, f4⟩ := hd.at_ i _ _ f1
  exact ⟨G', _, .refl g2, by simp [f3], kD_dq k1⟩
theorem walkd_vals {d : Addr} {o : Obj} {ks : List (K2 × V)} {ds : Kvs} {W G : Hp} (h : W d = some (.frz o (.dK ks))) (hd : DqKv K G ks ds) : WalkD K (Itd d o ks) (ds.map (·.2)) W G := by
  have hl : (ds.map (·.2)).length = ks.length := by simp [hd.len]
  refine ⟨fun i H hi s => (walk_values (d := d) (o := o) (kvs := ks)).goes i H (by rw [← hl]; exact hi) (s _ _ h), fun H s => by rw [hl]; exact (walk_values (d := d) (o := o) (kvs := ks)).stops H (s _ _ h), fun i G' H x H' hi s g1 g2 y => ?_⟩
  obtain ⟨rfl, k1, f1⟩ := (walk_values (d := d) (o := o) (kvs := ks)).yields i H x H' (by rw [← hl]; exact hi) (s _ _ h) y
  obtain ⟨dd, f3, f4⟩ := hd.at_ i _ _ f1
  exact ⟨G', _, .refl g2, by simp [f3], f4.mono g1⟩
variable {cl : Bool}
theorem len_dict {pins : List (Addr × Obj)} {s : Shared} {σ : St} {H G : Hp} {d : Addr} {o : Obj} {ks : List (K2 × V)} {ds : Kvs} (I : Inv X pins σ H s) (h : H d = some (.frz o (.dK ks))) (hd : DqKv X.K G ks ds) : ds.length ≤ sizeLine := by
  rw [← hd.len]; exact (dk_rd I.hok (.inr ⟨o, h⟩)).1
theorem frz_W {G' H' : Hp} {d : Addr} {o : HO} (s : Same G' H') (h : G' d = some o) : (if cl then G' else H') d = some o := by
  cases cl with
  | true => exact h
  | false => exact s _ _ h
theorem it_items {tpos apos cpos : Pos} {elts : List Expr} {kk : Nat} (h : PD X a fa) (hbase : attributeBase a "items" X.env (eval a X.env) = eval a X.env := by rfl) (hline : (apos.endLine == cpos.line) = true := by rfl) :
    PId cl X (.Tuple elts kk tpos) (.Call (.Attribute a "items" apos) [] [] cpos) (f1 (fun d => (kvOf d).map itemL) fa) := ⟨fun pins s σ H R I hw => by
  obtain ⟨G, ρ, ds, Rr, e1, q⟩ := hw
  obtain ⟨d, e2, e3⟩ := f1_some e1
  obtain ⟨es, e4, rfl⟩ := Option.map_eq_some_iff.mp e3
  obtain rfl := kvOf_some e4
  refine pi_weak (R := fun J H' => ∃ G' a o ks, Ext G H G' H' ∧ J = Iti a o ks ∧ G' a = some (.frz o (.dK ks)) ∧ DqKv X.K G' ks es) (pi_items h hbase hline) I ⟨G, ρ, _, Rr, e2, fun v G1 H1 x1 r1 => ?_⟩ fun J H' s2 I' ⟨G', a, o, ks, x, ej, ha, hd⟩ => ?_
  · cases r1 with
    | @dic a o ks _ h1 h2 => exact ⟨a, o, ks, rfl, x1.gh _ _ h1, G1, a, o, ks, x1, rfl, h1, h2⟩
  · subst ej
    exact q _ G' H' x (walkd_items (frz_W x.gh ha) hd) (by simp only [itemL, List.length_map]; exact len_dict I' (x.gh _ _ ha) hd)⟩
theorem it_vals {apos cpos : Pos} (h : PD X a fa) (hbase : attributeBase a "values" X.env (eval a X.env) = eval a X.env := by rfl) (hline : (apos.endLine == cpos.line) = true := by rfl) :
    PId cl X tg (.Call (.Attribute a "values" apos) [] [] cpos) (f1 (fun d => (kvOf d).map fun ds => ds.map (·.2)) fa) := ⟨fun pins s σ H R I hw => by
  obtain ⟨G, ρ, ds, Rr, e1, q⟩ := hw
  obtain ⟨d, e2, e3⟩ := f1_some e1
  obtain ⟨es, e4, rfl⟩ := Option.map_eq_some_iff.mp e3
  obtain rfl := kvOf_some e4
  refine pi_weak (R := fun J H' => ∃ G' a o ks, Ext G H G' H' ∧ J = Itd a o ks ∧ G' a = some (.frz o (.dK ks)) ∧ DqKv X.K G' ks es) (pi_values h hbase hline) I ⟨G, ρ, _, Rr, e2, fun v G1 H1 x1 r1 => ?_⟩ fun J H' s2 I' ⟨G', a, o, ks, x, ej, ha, hd⟩ => ?_
  · cases r1 with
    | @dic a o ks _ h1 h2 => exact ⟨a, o, ks, rfl, x1.gh _ _ h1, G1, a, o, ks, x1, rfl, h1, h2⟩
  · subst ej
    exact q _ G' H' x (walkd_vals (frz_W x.gh ha) hd) (by simp only [List.length_map]; exact len_dict I' (x.gh _ _ ha) hd)⟩
theorem it_keys (h : PD X a fa) : PId cl X tg a (f1 (fun d => (kvOf d).map fun ds => ds.map (·.1)) fa) := ⟨fun pins s σ H R I hw => by
  obtain ⟨G, ρ, ds, Rr, e1, q⟩ := hw
  obtain ⟨d, e2, e3⟩ := f1_some e1
  obtain ⟨es, e4, rfl⟩ := Option.map_eq_some_iff.mp e3
  obtain rfl := kvOf_some e4
  refine pi_weak (R := fun J H' => ∃ G' a o ks, Ext G H G' H' ∧ J = Itk a o ks ∧ G' a = some (.frz o (.dK ks)) ∧ DqKv X.K G' ks es) (pi_keys h) I ⟨G, ρ, _, Rr, e2, fun v G1 H1 x1 r1 => ?_⟩ fun J H' s2 I' ⟨G', a, o, ks, x, ej, ha, hd⟩ => ?_
  · cases r1 with
    | @dic a o ks _ h1 h2 => exact ⟨a, o, rfl, .inl ⟨ks, x1.gh _ _ h1, G1, a, o, ks, x1, rfl, h1, h2⟩⟩
  · subst ej
    exact q _ G' H' x (walkd_keys (frz_W x.gh ha) hd) (by simp only [List.length_map]; exact len_dict I' (x.gh _ _ ha) hd)⟩
/-! ### the script -/
def scrOf (i : Nat) (ρ : En) : Option (List Int) := match ρ[i]? with
  | some (some (.s ns)) => some ns
  | _ => none
theorem scr_at {G H : Hp} {σ : St} {ρ : En} {i : Nat} {ns : List Int} (R : Rx K G H σ ρ) (e : scrOf i ρ = some ns) : ∃ a, σ[i]? = some (some (.ref a)) ∧ SqL K G a (ns.map V.int) := by
  unfold scrOf at e
  split at e
  · next h =>
    cases e
    obtain ⟨v, h1, h2⟩ := R.at_ i _ h
    cases h2 with
    | s f1 => exact ⟨_, h1, f1⟩
  · cases e
/-- len(script), script[k] -/
theorem pd_lenS (i : Nat) {x : Str} {lp xp : Pos} (hg : Gl X "len") (hm : X.mg "len" = none) (hN : X.N[i]? = some x := by rfl) (hv : Vis X.env.scope x := by first | exact Or.inl rfl | exact Or.inr (Or.inl rfl) | exact Or.inr (Or.inr rfl)) (hd : (x == ("__debug__" : Str)) = false := by decide) (hcd : (x == ("__classdict__" : Str)) = false := by decide)
    (he : starEach [.Name x xp] X.env = (false, eval (.Name x xp) X.env) :: starEach [] X.env := by rfl) (hpl : (backTo pos (starEach [] X.env)).any (·.1) = false := by rfl) : PD X (.Call (.Name "len" lp) [.Name x xp] [] pos) (fun ρ => (scrOf i ρ).map fun ns => .int ns.length) :=
  pe_con (pe_callB call_len_seq hg hm PySem.boot_len (pa_cons (pv_own i hN hv hd hcd) pa_nil he) (by decide) (by decide) he hpl) fun σ H Q ⟨G, ρ, d, R, e, q⟩ => by
    obtain ⟨ns, e1, rfl⟩ := Option.map_eq_some_iff.mp e
    obtain ⟨a, h1, h2⟩ := scr_at R e1
    refine ⟨_, h1, _, _, rfl, .inl (sqL_same R.sub h2), ?_⟩
    rw [List.length_map]
    exact q _ G H (.refl R.sub) (.int _)
theorem pd_ixS (i : Nat) {x : Str} {xp : Pos} (hb : PTp X b fb) (hN : X.N[i]? = some x := by rfl) (hv : Vis X.env.scope x := by first | exact Or.inl rfl | exact Or.inr (Or.inl rfl) | exact Or.inr (Or.inr rfl)) (hd : (x == ("__debug__" : Str)) = false := by decide) (hcd : (x == ("__classdict__" : Str)) = false := by decide)
    (hs : PlainIx b := by exact fun _ _ => rfl) : PD X (.Subscript (.Name x xp) b pos) (fun ρ => (scrOf i ρ).bind fun ns => (fb ρ).bind fun k => match k with | .int k => (atI ns k).map .int | _ => none) := pe_con (pe_ix ix_list (pv_own i hN hv hd hcd) hb hs) fun σ H Q ⟨G, ρ, d, R, e, q⟩ => by
  obtain ⟨ns, e1, e⟩ := Option.bind_eq_some_iff.mp e
  obtain ⟨kd, e2, e⟩ := Option.bind_eq_some_iff.mp e
  cases kd with
  | int kk =>
    obtain ⟨z, e3, rfl⟩ := Option.map_eq_some_iff.mp e
    obtain ⟨a, h1, h2⟩ := scr_at R e1
    refine ⟨_, h1, G, ρ, _, R, e2, fun u G1 H1 x1 r1 => ?_⟩
    cases r1.int_
    have e4 : atI (ns.map V.int) kk = some (.int z) := by
      unfold atI at e3 ⊢
      rw [List.length_map]
      obtain ⟨j, f1, f2⟩ := Option.bind_eq_some_iff.mp e3
      rw [f1]
      simp [f2]
    exact ⟨a, _, kk, .int z, rfl, rfl, sqL_same (R.sub.trans x1.hh) h2, e4, q _ G1 H1 x1 (.int _)⟩
  | _ => cases e
/-- a def of the script -/
def spS (K : PySem.W.Frag) (F : List Int → Option Sl) : Sp := fun vs H Q _ => ∃ G a ns s, Same G H ∧ vs = [.ref a] ∧ SqL K G a (ns.map V.int) ∧ F ns = some s ∧
  ∀ v G' H', Ext G H G' H' → DL.SlR K G' H' v s → (s.own = true → ∀ a, v = .ref a → H a = none) → Q v H'
def runS (n : Nat) (g : En → Option Out) (ns : List Int) : Option Sl := (g (some (.s ns) :: List.replicate (n - 1) none)).bind endD
theorem start_rpS {G H : Hp} {N : List Str} {a : Addr} {ns : List Int} (s : Same G H) (h : SqL K G a (ns.map V.int)) : Rp K G H G H (L2.start N [.ref a]) (some (.s ns) :: List.replicate (N.length - 1) none) := by
  have at0 : ∀ (i : Nat) (t : Sl), (some (Sl.s ns) :: List.replicate (N.length - 1) none)[i]? = some (some t) → i = 0 ∧ t = .s ns := fun i t e => by
    cases i with
    | zero => simp at e; exact ⟨rfl, e.symm⟩
    | succ i => rw [List.getElem?_cons_succ, List.getElem?_replicate] at e; split at e <;> cases e
  refine ⟨⟨s, by simp [L2.start], fun i t e => ?_, fun i j t u a h1 h2 o1 o2 _ _ => ?_⟩, .refl s, fun i t a h1 o1 _ => ?_⟩
  · obtain ⟨rfl, rfl⟩ := at0 i t e
    exact ⟨.ref a, rfl, .s h⟩
  · obtain ⟨rfl, rfl⟩ := at0 i t h1
    cases o1
  · obtain ⟨rfl, rfl⟩ := at0 i t h1
    cases o1
end
section
variable {P : Program} {w : World} {K : PySem.W.Frag} {mg : Str → Option Value} {base : Heap}
theorem body_endS {g : En → Option Out} {F : List Int → Option Sl} {N : List Str} {vs : List V} {H : Hp} {Q : VK} {E : XK} (hF : ∀ ns s, F ns = some s → runS N.length g ns = some s) (h : spS K F vs H Q E) :
    tS K g { nx := fun _ H' => Q .non H', rt := Q } (L2.start N vs) H := by
  obtain ⟨G, a, ns, s, sm, rfl, hd, e, q⟩ := h
  obtain ⟨o, e1, e2⟩ := Option.bind_eq_some_iff.mp (hF ns s e)
  refine ⟨G, H, G, _, o, start_rpS sm hd, e1, ?_⟩
  cases o with
  | nx ρ => cases e2; exact fun σ G' H' R => q _ G' H' R.ext (.p .non) fun z => (nomatch z)
  | rt s' => cases e2; exact q
  | bk ρ => cases e2
  | ct ρ => cases e2
theorem fn_s {x qual : Str} {st : Stmt} {f : Addr} {fd : FuncData} {N ps : List Str} {k : Nat} {g : En → Option Out} {F : List Int → Option Sl} (Fn : L2.Fun K x qual st f fd) (S : FnScope N ps (defScope st)) (hp : ps.length = 1) (hF : ∀ ns s, F ns = some s → runS N.length g ns = some s)
    (hb : ∀ (cdv : Value) (A : Around) (outer : List Env) (s : Shared) (H : Hp) (E : XK), Room k (A.deeper (envOfC qual (defScope st) s.heap.objs.size f cdv)) →
      PSSD (cxOf CX0 P w K mg base N qual (defScope st) f cdv A outer s H E).nox (defBody st) g) : FnOk P w K mg base CX0 (k + 1) f fd ps (spS K F) :=
  Fn.ok S (fun vs H Q E ⟨G, a, ns, s, _, hv, _⟩ => by rw [hv, hp] <;> rfl) fun cdv A outer s H vs Q E hr h => ⟨_, hb cdv A outer s H E hr, body_endS hF h⟩
end
section
variable {X : Cx} {e : Expr} {pos : Pos} {k : Nat} {F : List Int → Option Sl} {f : Addr} {fd : FuncData} {ps : List Str} {x y : Str} {p xp : Pos}
/-- f(script) -/
theorem pf_callS (i : Nat) (Fn : FnOk X.prog X.w X.K X.mg X.base CX0 k f fd ps (spS X.K F)) (hr : Room k X.A) (hg : Gl X y) (hm : X.mg y = some (.ref f)) (hk : PySem.W.keepIn X.K (.ref f) = true) (hb : Binds X.K fd ps []) (hdb : (y == ("__debug__" : Str)) = false := by decide)
    (hN : X.N[i]? = some x := by rfl) (hv : Vis X.env.scope x := by first | exact Or.inl rfl | exact Or.inr (Or.inl rfl) | exact Or.inr (Or.inr rfl)) (hd : (x == ("__debug__" : Str)) = false := by decide) (hcd : (x == ("__classdict__" : Str)) = false := by decide)
    (he : starEach [.Name x xp] X.env = (false, eval (.Name x xp) X.env) :: starEach [] X.env := by rfl) (hpl : (backTo pos (starEach [] X.env)).any (·.1) = false := by rfl) : PF X (.Call (.Name y p) [.Name x xp] [] pos) (fun ρ => (scrOf i ρ).bind F) :=
  pe_con (pe_call Fn hr hg hm hk hb .nil pass0 (pa_cons (pv_own i hN hv hd hcd) pa_nil he) hdb he hpl) fun σ H Q ⟨G, ρ, s, R, e, q⟩ => by
    obtain ⟨ns, e1, e2⟩ := Option.bind_eq_some_iff.mp e
    obtain ⟨a, h1, h2⟩ := scr_at R e1
    exact ⟨_, h1, G, a, ns, s, R.sub, rfl, h2, e2, q⟩
end
end DL

set_option Elab.async false
set_option linter.all false
set_option maxRecDepth 100000
/-! The D layer, 10: comprehensions of two clauses; short names; what the top has written. -/
namespace DL
open PySem PySem.Spec PyProof.Rows L2

/-! ### [e for a in xs for b in ys] -/
section
variable {K : PySem.W.Frag}
/-- the inner clause: from the frame of the outer turn -/
def compI (vs1 : List Nat) (fi1 : En → Option (List PyData)) (p1 : Pat) (ft1 : En → Option Bool) (fe : En → Option PyData) (ρ : En) : Option (List PyData) := (fi1 ρ).bind fun es => compD p1 ft1 fe (DL.fgt vs1 ρ) es
def compO (p : Pat) (ft : En → Option Bool) (inner : En → Option (List PyData)) (ρ : En) : List PyData → Option (List PyData)
  | [] => some []
  | d :: r => (pm p d ρ).bind fun ρ1 => (ft ρ1).bind fun b => if b then (inner ρ1).bind fun ys => (compO p ft inner ρ r).map (ys ++ ·) else compO p ft inner ρ r
/-- the whole has at most `most` items -/
def fLc2 (vs vs1 : List Nat) (fi : En → Option (List PyData)) (p : Pat) (ft : En → Option Bool) (fi1 : En → Option (List PyData)) (p1 : Pat) (ft1 : En → Option Bool) (fe : En → Option PyData) : En → Option Sl := fun ρ => (fi ρ).bind fun ds => (compO p ft (compI vs1 fi1 p1 ft1 fe) (DL.fgt vs ρ) ds).bind fun ys => if ys.length ≤ most then some (.l ys) else none
theorem wipe_sub {σ τ : L2.St} : ∀ {vs vs1 : List Nat}, (∀ i ∈ vs1, i ∈ vs) → L2.wipe σ vs1 = L2.wipe τ vs1 → L2.wipe σ vs = L2.wipe τ vs := by
  intro vs vs1 hs h
  have hl : σ.length = τ.length := by
    have := congrArg List.length h
    rw [wipe_length, wipe_length] at this
    exact this
  refine List.ext_getElem? fun j => ?_
  by_cases hj : j ∈ vs
  · have k : ∀ (ρ : L2.St), (L2.wipe ρ vs)[j]? = if j < ρ.length then some none else none := by
      intro ρ
      by_cases e : j < ρ.length
      · rw [if_pos e]
        cases q : (L2.wipe ρ vs)[j]? with
        | none => rw [List.getElem?_eq_none_iff, wipe_length] at q; omega
        | some x =>
          cases x with
          | none => rfl
          | some v => exact absurd hj (wipe_some q).2
      · rw [if_neg e, List.getElem?_eq_none]
        rw [wipe_length]; omega
    rw [k, k, hl]
  · have hj1 : j ∉ vs1 := fun z => hj (hs j z)
    have := congrArg (fun l => l[j]?) h
    rw [wipe_get hj1, wipe_get hj1] at this
    rw [wipe_get hj, wipe_get hj, this]
/-- a heap without D -/
def but (D : Addr) (H : Hp) : Hp := fun b => if b = D then none else H b
theorem but_ne {D b : Addr} {H : Hp} (h : b ≠ D) : but D H b = H b := if_neg h
theorem but_at {D : Addr} {H : Hp} : but D H D = none := if_pos rfl
theorem same_but {D : Addr} {H H' : Hp} (s : ∀ b o, b ≠ D → H b = some o → H' b = some o) : Same (but D H) H' := fun b o z => by
  by_cases h : b = D
  · rw [h, but_at] at z; cases z
  · rw [but_ne h] at z; exact s b o h z
theorem same_to_but {D : Addr} {G H : Hp} (s : Same G H) (h : G D = none) : Same G (but D H) := fun b o z => by
  rw [but_ne (fun e => by rw [e, h] at z; cases z)]; exact s _ _ z
theorem rx_but {G H G1 H1 : Hp} {σ σ' : L2.St} {ρ ρ' : En} {D : Addr} (R : Rx K G H σ' ρ') (k : Kept σ ρ σ' ρ') (R0 : Rx K G1 H1 σ ρ) (hD : H1 D = none) (gD : G D = none) : Rx K G (but D H) σ' ρ' := by
  refine ⟨same_to_but R.sub gD, R.len, fun j s hj => ?_, R.apart⟩
  obtain ⟨v, v1, v2⟩ := R.at_ j s hj
  refine ⟨v, v1, ?_⟩
  cases v2 with
  | p h => exact .p h
  | s h => exact .s h
  | q a => exact .q a
  | @l c xs ds f1 f2 f3 =>
    obtain ⟨k1, k2⟩ := k j _ hj rfl
    obtain ⟨u, u1, u2⟩ := R0.at_ j _ k1
    rw [← k2, v1] at u1; cases u1
    cases u2 with
    | l g1 g2 g3 => exact .l f1 (by rw [but_ne (fun e => by rw [e, hD] at g2; cases g2)]; exact f2) f3
  | @k c xs ds f1 f2 f3 =>
    obtain ⟨k1, k2⟩ := k j _ hj rfl
    obtain ⟨u, u1, u2⟩ := R0.at_ j _ k1
    rw [← k2, v1] at u1; cases u1
    cases u2 with
    | k g1 g2 g3 => exact .k f1 (by rw [but_ne (fun e => by rw [e, hD] at g2; cases g2)]; exact f2) f3
theorem ext_but {G H G' H' : Hp} {D : Addr} (x : Ext G H G' H') (gD : G' D = none) : Ext G (but D H) G' (but D H') :=
  ⟨x.gg, fun b o z => by
    by_cases h : b = D
    · rw [h, but_at] at z; cases z
    · rw [but_ne h] at z ⊢; exact x.hh _ _ z, same_to_but x.gh gD, fun b z1 z2 => x.hid b (fun e => z1 (by
      by_cases h : b = D
      · rw [h, but_at]
      · rw [but_ne h]; exact e)) z2⟩
theorem lc2_reads {vs vs1 : List Nat} {fi fi1 : En → Option (List PyData)} {p p1 : Pat} {ft ft1 : En → Option Bool} {fe : En → Option PyData} (hv : ∀ i ∈ p.slots, i ∈ vs) (hv1 : ∀ i ∈ p1.slots, i ∈ vs1) : ∀ σ H Q, tF K (fLc2 vs vs1 fi p ft fi1 p1 ft1 fe) σ H Q →
    tLc2 (iD false K fi) (gP K p) (DL.tB K ft) (iD true K fi1) (gP K p1) (DL.tB K ft1) (tD K fe) vs vs1 σ H Q := fun σ H Q ⟨G, ρ, s, R, e, q⟩ => by
  obtain ⟨ds, e1, e2⟩ := Option.bind_eq_some_iff.mp e
  obtain ⟨res, e3, e3'⟩ := Option.bind_eq_some_iff.mp e2
  split at e3'
  · next hmost =>
    cases e3'
    have neD : ∀ {H : Hp} {o : HO} {D : Addr}, H D = some o → H D ≠ none := fun h z => by rw [h] at z; cases z
    refine ⟨G, ρ, ds, R, e1, fun J G1 H1 x1 w hz D hD => ?_⟩
    have w' : WalkD K J ds H1 G1 := w
    have Rw := (R.ext x1).wipe vs
    refine ⟨fun i m H => i ≤ ds.length ∧ m = ds.length - i ∧ ∃ G2 xs out rest, Ext G1 H1 G2 H ∧ H D = some (.lst xs) ∧ G2 D = none ∧ DqAll K G2 xs out ∧ compO p ft (compI vs1 fi1 p1 ft1 fe) (DL.fgt vs ρ) (ds.drop i) = some rest ∧ res = out ++ rest,
      ⟨_, Nat.zero_le _, rfl, G1, [], [], res, .hidden x1.gh hD, upd_same, x1.gh.free hD, .nil, e3, rfl⟩, ?_⟩
    rintro i m H2 ⟨hi, rfl, G2, xs, out, rest, x2, hDx, gD, hd, e4, er⟩
    by_cases hlt : i < ds.length
    · obtain ⟨d, hdi, hdr⟩ := drop_cons hlt
      rw [hdr, compO] at e4
      obtain ⟨ρ3, e5, e6⟩ := Option.bind_eq_some_iff.mp e4
      obtain ⟨z, e7, e8⟩ := Option.bind_eq_some_iff.mp e6
      refine .inr ⟨w'.goes i H2 hlt x2.hh, fun H' => ∃ G2 xs out' rest', Ext G1 H1 G2 H' ∧ H' D = some (.lst xs) ∧ G2 D = none ∧ DqAll K G2 xs out' ∧ compO p ft (compI vs1 fi1 p1 ft1 fe) (DL.fgt vs ρ) (ds.drop (i + 1)) = some rest' ∧ res = out' ++ rest',
        fun H' ⟨G2, xs, o', r', a1, a2, a3, a4, a6, a7⟩ => ⟨ds.length - (i + 1), by omega, hlt, rfl, G2, xs, o', r', a1, a2, a3, a4, a6, a7⟩, fun x H' y => ?_⟩
      obtain ⟨G3, d', x3, hd', r3⟩ := w'.yields i G2 H2 x H' hlt x2.hh x2.gg x2.gh y
      rw [hdi] at hd'; cases hd'
      have R3 := (R.ext (x1.trans (x2.trans x3))).wipe vs
      refine ⟨G3, _, d, ρ3, R3, r3, e5, fun σ' r k wv => ⟨by rw [wv vs hv, wipe_idem], G3, ρ3, z, r, e7, fun G4 H4 x4 => ?_⟩⟩
      have hD4 := x4.hh _ _ (x3.hh _ _ hDx)
      have gD4 := x4.hid D (neD (x3.hh _ _ hDx)) (x3.hid D (neD hDx) gD)
      have R4 := r.ext x4
      have Rm := rx_but R4 k Rw hD gD4
      cases z with
      | false => exact iteF ⟨G4, xs, out, rest, x2.trans (x3.trans x4), hD4, gD4, hd.mono (x3.gg.trans x4.gg), e8, er⟩
      | true =>
        obtain ⟨ys, e9, e10⟩ := Option.bind_eq_some_iff.mp e8
        obtain ⟨rest', e11, rfl⟩ := Option.map_eq_some_iff.mp e10
        obtain ⟨es, e12, e13⟩ := Option.bind_eq_some_iff.mp e9
        refine iteT ⟨G4, ρ3, es, R4, e12, fun J1 G5 H5 x5 w1 hz1 => ?_⟩
        have w1' : WalkD K J1 es G5 G5 := w1
        have xx5 := x2.trans (x3.trans (x4.trans x5))
        have hD5 := x5.hh _ _ hD4
        have gD5 := x5.hid D (neD hD4) gD4
        have R5 := Rm.ext (ext_but x5 gD5)
        -- up to the inner walk's base
        have up : ∀ {G6 H6 : Hp}, Ext G5 (but D H5) G6 H6 → Ext G1 H1 G6 H6 := fun {G6 H6} x => ⟨xx5.gg.trans x.gg, fun b o z => x.hh _ _ (by rw [but_ne (ne_of_none z hD)]; exact xx5.hh _ _ z), x.gh, fun b z1 z2 => x.hid b (by
          rw [but_ne (fun e => z1 (by rw [e]; exact hD))]
          exact some_ne xx5.hh z1) (xx5.hid b z1 z2)⟩
        refine ⟨fun j n H => j ≤ es.length ∧ n = es.length - j ∧ ∃ G6 xs6 out6 rest6, Ext G5 (but D H5) G6 H ∧ H D = some (.lst xs6) ∧ G6 D = none ∧ DqAll K G6 xs6 out6 ∧ compD p1 ft1 fe (DL.fgt vs1 ρ3) (es.drop j) = some rest6 ∧ res = out6 ++ (rest6 ++ rest'),
          ⟨_, Nat.zero_le _, rfl, G5, xs, out, ys, ⟨.refl _, same_but fun _ _ _ h => h, x5.gh, fun _ _ h => h⟩, hD5, gD5, hd.mono (x3.gg.trans (x4.gg.trans x5.gg)), e13, er⟩, ?_⟩
        rintro j n H6 ⟨hj, rfl, G6, xs6, out6, rest6, x6, hDx6, gD6, hd6, e14, er6⟩
        by_cases hlt1 : j < es.length
        · obtain ⟨d1, hd1, hdr1⟩ := drop_cons hlt1
          rw [hdr1, compD] at e14
          obtain ⟨ρ4, e15, e16⟩ := Option.bind_eq_some_iff.mp e14
          obtain ⟨z1, e17, e18⟩ := Option.bind_eq_some_iff.mp e16
          refine .inr ⟨w1'.goes j H6 hlt1 (x6.gg.trans x6.gh), fun H' => ∃ G6 xs6 out6 rest6, Ext G5 (but D H5) G6 H' ∧ H' D = some (.lst xs6) ∧ G6 D = none ∧ DqAll K G6 xs6 out6 ∧ compD p1 ft1 fe (DL.fgt vs1 ρ3) (es.drop (j + 1)) = some rest6 ∧ res = out6 ++ (rest6 ++ rest'),
            fun H' ⟨G6, xs6, o6, r6, a1, a2, a3, a4, a5, a6⟩ => ⟨es.length - (j + 1), by omega, hlt1, rfl, G6, xs6, o6, r6, a1, a2, a3, a4, a5, a6⟩, fun x1 H7 y1 => ?_⟩
          obtain ⟨G7, d1', x7, hd1', r7⟩ := w1'.yields j G6 H6 x1 H7 hlt1 (x6.gg.trans x6.gh) x6.gg x6.gh y1
          rw [hd1] at hd1'; cases hd1'
          have R7 := (R5.ext (x6.trans x7)).wipe vs1
          refine ⟨G7, _, d1, ρ4, R7, r7, e15, fun σ4 rr kk wv1 => ⟨by rw [wv1 vs1 hv1, wipe_idem], G7, ρ4, z1, rr, e17, fun G8 H8 x8 => ?_⟩⟩
          have hD8 := x8.hh _ _ (x7.hh _ _ hDx6)
          have gD8 := x8.hid D (neD (x7.hh _ _ hDx6)) (x7.hid D (neD hDx6) gD6)
          cases z1 with
          | false => exact iteF ⟨G8, xs6, out6, rest6, x6.trans (x7.trans x8), hD8, gD8, hd6.mono (x7.gg.trans x8.gg), e18, er6⟩
          | true =>
            obtain ⟨y2, e19, e20⟩ := Option.bind_eq_some_iff.mp e18
            obtain ⟨rest7, e21, rfl⟩ := Option.map_eq_some_iff.mp e20
            refine iteT ⟨G8, ρ4, y2, rr.ext x8, e19, fun v G9 H9 x9 r9 => ⟨xs6, x9.hh _ _ hD8, ?_, G9, xs6 ++ [v], out6 ++ [y2], rest7, ?_, upd_same, x9.hid D (neD hD8) gD8, (hd6.mono (x7.gg.trans (x8.gg.trans x9.gg))).app (.cons r9 .nil), e21, by rw [er6]; simp⟩⟩
            · have h1 := congrArg List.length er6
              simp only [List.length_append, List.length_cons] at h1
              rw [hd6.len]
              exact most_lt (by omega)
            · have xx := x6.trans (x7.trans (x8.trans x9))
              have gD9 := x9.hid D (neD hD8) gD8
              exact ⟨xx.gg, same_but fun b o hb z => by rw [upd_ne hb]; exact xx.hh _ _ (by rw [but_ne hb]; exact z), fun b o z => by rw [upd_ne (fun e => by rw [e, gD9] at z; cases z)]; exact xx.gh _ _ z, xx.hid⟩
        · have ej : j = es.length := by omega
          subst ej
          rw [List.drop_length, compD] at e14
          cases e14
          refine .inl ⟨w1'.stops H6 (x6.gg.trans x6.gh), G6, xs6, out6, rest', up x6, hDx6, gD6, hd6, e11, by rw [er6]; simp⟩
    · have ei : i = ds.length := by omega
      subst ei
      rw [List.drop_length, compO] at e4
      cases e4
      rw [List.append_nil] at er
      subst er
      exact .inl ⟨w'.stops H2 x2.hh, q _ G2 H2 (x1.trans x2) (.l gD hDx hd) fun _ a z => by cases z; exact x1.hh.free hD⟩
  · cases e3'
end
section
variable {X : Cx} {tg tg1 : Expr} {pos : Pos}
theorem pf_lc2 {elt iter iter1 : Expr} {ifs ifs1 : List Expr} {scope : Scope} {own : List (Str × Nat)} {vs1 : List Nat} {fi fi1 : En → Option (List PyData)} {p p1 : Pat} {ft ft1 : En → Option Bool} {fe : En → Option PyData} (hc : X.calm = true) (hN : X.N.Nodup) (hi : PId false X tg iter fi) (ok : BlkOk X.N X.env.scope scope own)
    (hv : ∀ i ∈ p.slots, i ∈ own.map (·.2)) (hv0 : ∀ i ∈ vs1, i ∈ own.map (·.2)) (hv1 : ∀ i ∈ p1.slots, i ∈ vs1)
    (hg : ∀ (s : Shared) (H : Hp) (C : Addr) (cl : List (Str × Addr)) (fp : List Addr), PG (X.blk s H scope (compEnvC scope cl C X.env) fp) tg (gP X.K p)) (ht : ∀ (s : Shared) (H : Hp) (C : Addr) (cl : List (Str × Addr)) (fp : List Addr), PTs (X.blk s H scope (compEnvC scope cl C X.env) fp) ifs (DL.tB X.K ft))
    (hi1 : ∀ (s : Shared) (H : Hp) (C : Addr) (cl : List (Str × Addr)) (fp : List Addr), PId true (X.blk s H scope (compEnvC scope cl C X.env) fp) tg1 iter1 fi1)
    (hg1 : ∀ (s : Shared) (H : Hp) (C : Addr) (cl : List (Str × Addr)) (fp : List Addr), PG (X.blk s H scope (compEnvC scope cl C X.env) fp) tg1 (gP X.K p1)) (ht1 : ∀ (s : Shared) (H : Hp) (C : Addr) (cl : List (Str × Addr)) (fp : List Addr), PTs (X.blk s H scope (compEnvC scope cl C X.env) fp) ifs1 (DL.tB X.K ft1))
    (he : ∀ (s : Shared) (H : Hp) (C : Addr) (cl : List (Str × Addr)) (fp : List Addr), PD (X.blk s H scope (compEnvC scope cl C X.env) fp) elt fe) (hs : ∀ x, foldedSetIterable iter X.env x = pure x := by intro _; rfl) (hs1 : ∀ env x, foldedSetIterable iter1 env x = pure x := by intro _ _; rfl) :
    PF X (.ListComp elt [⟨tg, iter, ifs, 0⟩, ⟨tg1, iter1, ifs1, 0⟩] scope pos) (fLc2 (own.map (·.2)) vs1 fi p ft fi1 p1 ft1 fe) := pe_con (pe_lc2 hc hN hi ok hv0 hg ht hi1 hg1 ht1 he hs hs1) (lc2_reads hv hv1)
theorem sd_setLc2 {i : Nat} {y : Str} {py spos : Pos} {elt iter iter1 : Expr} {ifs ifs1 : List Expr} {scope : Scope} {own : List (Str × Nat)} {vs1 : List Nat} {fi fi1 : En → Option (List PyData)} {p p1 : Pat} {ft ft1 : En → Option Bool} {fe : En → Option PyData} (hc : X.calm = true) (hN : X.N.Nodup) (hy : X.N[i]? = some y) (hyl : X.env.scope.names.lookup y = some .local)
    (hsw : swapsWith (.ListComp elt [⟨tg, iter, ifs, 0⟩, ⟨tg1, iter1, ifs1, 0⟩] scope pos) (some (.Name y py)) spos.line X.env = pure true) (hi : PId false X tg iter fi) (ok : BlkOk X.N X.env.scope scope own)
    (hv : ∀ i ∈ p.slots, i ∈ own.map (·.2)) (hv0 : ∀ i ∈ vs1, i ∈ own.map (·.2)) (hv1 : ∀ i ∈ p1.slots, i ∈ vs1)
    (hg : ∀ (s : Shared) (H : Hp) (C : Addr) (cl : List (Str × Addr)) (fp : List Addr), PG (X.blk s H scope (compEnvC scope cl C X.env) fp) tg (gP X.K p)) (ht : ∀ (s : Shared) (H : Hp) (C : Addr) (cl : List (Str × Addr)) (fp : List Addr), PTs (X.blk s H scope (compEnvC scope cl C X.env) fp) ifs (DL.tB X.K ft))
    (hi1 : ∀ (s : Shared) (H : Hp) (C : Addr) (cl : List (Str × Addr)) (fp : List Addr), PId true (X.blk s H scope (compEnvC scope cl C X.env) fp) tg1 iter1 fi1)
    (hg1 : ∀ (s : Shared) (H : Hp) (C : Addr) (cl : List (Str × Addr)) (fp : List Addr), PG (X.blk s H scope (compEnvC scope cl C X.env) fp) tg1 (gP X.K p1)) (ht1 : ∀ (s : Shared) (H : Hp) (C : Addr) (cl : List (Str × Addr)) (fp : List Addr), PTs (X.blk s H scope (compEnvC scope cl C X.env) fp) ifs1 (DL.tB X.K ft1))
    (he : ∀ (s : Shared) (H : Hp) (C : Addr) (cl : List (Str × Addr)) (fp : List Addr), PD (X.blk s H scope (compEnvC scope cl C X.env) fp) elt fe) (hs : ∀ x, foldedSetIterable iter X.env x = pure x := by intro _; rfl) (hs1 : ∀ env x, foldedSetIterable iter1 env x = pure x := by intro _ _; rfl) :
    PSD X (.Assign [.Name y py] (.ListComp elt [⟨tg, iter, ifs, 0⟩, ⟨tg1, iter1, ifs1, 0⟩] scope pos) spos) (gSetF i (fLc2 (own.map (·.2)) vs1 fi p ft fi1 p1 ft1 fe)) := ps_con (ps_setLc2 hc hN hy hyl hsw hi ok hv0 hg ht hi1 hg1 ht1 he hs hs1) fun D σ H q => lc2_reads hv hv1 _ _ _ (asg_f D σ H q)
theorem sd_setLc2P {i : Nat} {y : Str} {py spos : Pos} {elt iter iter1 : Expr} {ifs ifs1 : List Expr} {scope : Scope} {own : List (Str × Nat)} {vs1 : List Nat} {fi fi1 : En → Option (List PyData)} {p p1 : Pat} {ft ft1 : En → Option Bool} {fe : En → Option PyData} (hc : X.calm = true) (hN : X.N.Nodup) (hy : X.N[i]? = some y) (hyl : X.env.scope.names.lookup y = some .local)
    (hsw : swapsWith (.ListComp elt [⟨tg, iter, ifs, 0⟩, ⟨tg1, iter1, ifs1, 0⟩] scope pos) (some (.Name y py)) spos.line X.env = pure true) (hi : PId false X tg iter fi) (ok : BlkOk X.N X.env.scope scope own)
    (hv : ∀ i ∈ p.slots, i ∈ own.map (·.2)) (hv0 : ∀ i ∈ vs1, i ∈ own.map (·.2)) (hv1 : ∀ i ∈ p1.slots, i ∈ vs1)
    (hg : ∀ (s : Shared) (H : Hp) (C : Addr) (cl : List (Str × Addr)) (fp : List Addr), PG (X.blk s H scope (compEnvC scope cl C X.env) fp) tg (gP X.K p)) (ht : ∀ (s : Shared) (H : Hp) (C : Addr) (cl : List (Str × Addr)) (fp : List Addr), PTs (X.blk s H scope (compEnvC scope cl C X.env) fp) ifs (DL.tB X.K ft))
    (hi1 : ∀ (s : Shared) (H : Hp) (C : Addr) (cl : List (Str × Addr)) (fp : List Addr), PId true (X.blk s H scope (compEnvC scope cl C X.env) fp) tg1 iter1 fi1)
    (hg1 : ∀ (s : Shared) (H : Hp) (C : Addr) (cl : List (Str × Addr)) (fp : List Addr), PG (X.blk s H scope (compEnvC scope cl C X.env) fp) tg1 (gP X.K p1)) (ht1 : ∀ (s : Shared) (H : Hp) (C : Addr) (cl : List (Str × Addr)) (fp : List Addr), PTs (X.blk s H scope (compEnvC scope cl C X.env) fp) ifs1 (DL.tB X.K ft1))
    (he : ∀ (s : Shared) (H : Hp) (C : Addr) (cl : List (Str × Addr)) (fp : List Addr), PD (X.blk s H scope (compEnvC scope cl C X.env) fp) elt fe) (hs : ∀ x, foldedSetIterable iter X.env x = pure x := by intro _; rfl) (hs1 : ∀ env x, foldedSetIterable iter1 env x = pure x := by intro _ _; rfl) :
    PSD X (.Assign [.Name y py] (.ListComp elt [⟨tg, iter, ifs, 0⟩, ⟨tg1, iter1, ifs1, 0⟩] scope pos) spos) (gSetL i (fLc2 (own.map (·.2)) vs1 fi p ft fi1 p1 ft1 fe)) := ps_con (ps_setLc2 hc hN hy hyl hsw hi ok hv0 hg ht hi1 hg1 ht1 he hs hs1) fun D σ H q => lc2_reads hv hv1 _ _ _ (asg_l D σ H q)
end

/-! ### short names -/
def enumD (d : PyData) : Option (List PyData) := (listOnly d).map enumL
def itemsK (d : PyData) : Option (List PyData) := (kvOf d).map itemL
def valsK (d : PyData) : Option (List PyData) := (kvOf d).map fun ds => ds.map (·.2)
def keysK (d : PyData) : Option (List PyData) := (kvOf d).map fun ds => ds.map (·.1)
def fNotB (f : En → Option Bool) : En → Option Bool := fun ρ => (f ρ).map (!·)
def gRel (i : Nat) (g : En → Option Out) : En → Option Out := fun ρ => (relE i ρ).bind g
def gRet (f : En → Option PyData) : En → Option Out := fun ρ => (f ρ).map fun d => .rt (.p d)
def gRetF (f : En → Option Sl) : En → Option Out := fun ρ => (f ρ).map .rt
def gExpr (f : En → Option PyData) : En → Option Out := fun ρ => (f ρ).map fun _ => .nx ρ
/-- a def of the top: its object, the name that holds it, how arguments come to it -/
structure DefAt (K : PySem.W.Frag) (mg : Str → Option Value) (x own : Str) (st : Stmt) (ps : List Str) (f : Addr) (fd : FuncData) : Prop where
  fn : L2.Fun K own own st f fd
  at_ : mg x = some (.ref f)
  bi : Binds K fd ps []
end DL

set_option Elab.async false
set_option linter.all false
set_option maxRecDepth 100000
/-! The D layer, 11: dicts compared, their keys' least and greatest, sorted keys, sums of values; lists backwards. -/
namespace DL
open PySem PySem.Spec PyProof.Rows L2
section
variable {X : Cx} {a b c e : Expr} {pos : Pos} {fa fb : En → Option PyData} {k : Nat} {K : PySem.W.Frag}

/-! ### d == e, both of plain values: told only where they are equal -/
/-- two plain data are one -/
def scS : PyData → PyData → Bool
  | .none, .none => true
  | .bool a, .bool b => decide (a = b)
  | .int a, .int b => decide (a = b)
  | .str a, .str b => decide (a = b)
  | _, _ => false
theorem scS_flat {G : Hp} {v u : V} {d d' : PyData} (h : Dq K G v d) (h' : Dq K G u d') (e : scS d d' = true) : u = v ∧ flatB v = true := by
  unfold scS at e
  split at e
  · cases h; cases h'; exact ⟨rfl, rfl⟩
  · rw [decide_eq_true_eq] at e; subst e; cases h; cases h'; exact ⟨rfl, rfl⟩
  · rw [decide_eq_true_eq] at e; subst e; cases h; cases h'; exact ⟨rfl, rfl⟩
  · rw [decide_eq_true_eq] at e; subst e; cases h; cases h'; exact ⟨rfl, rfl⟩
  · cases e
def hitK (ls : Kvs) (p : PyData × PyData) : Bool := match keyK p.1 with
  | some k => (match lookK ls k with
    | some d => scS p.2 d
    | none => false)
  | none => false
def eqK (x y : PyData) : Option Bool := match x, y with
  | .dict ks, .dict ls => if decide (ks.length = ls.length) && ks.all (hitK ls) then some true else none
  | _, _ => none
def eqKD (x y : PyData) : Option PyData := (eqK x y).map .bool
def neKD (x y : PyData) : Option PyData := (eqK x y).map fun b => .bool (!b)
theorem eqK_spec {ks ls : List (K2 × V)} {dk dl : Kvs} {G : Hp} (hk : DqKv K G ks dk) (hl : DqKv K G ls dl) (e : eqK (.dict dk) (.dict dl) = some true) :
    ks.length = ls.length ∧ ∀ p ∈ ks, valV ls p.1 = some p.2 ∧ flatB p.2 = true := by
  have e : (if decide (dk.length = dl.length) && dk.all (hitK dl) then some true else none) = some true := e
  by_cases h : (decide (dk.length = dl.length) && dk.all (hitK dl)) = true
  ·   rw [Bool.and_eq_true, decide_eq_true_eq] at h
      refine ⟨by rw [hk.len, hl.len]; exact h.1, ?_⟩
      have h2 := h.2
      clear h e
      revert h2
      refine DqKv.rec' (P := fun ks dk => dk.all (hitK dl) = true → ∀ p ∈ ks, valV ls p.1 = some p.2 ∧ flatB p.2 = true) (fun _ p hp => by cases hp) (fun k v ks d ds hv _ ih hh p hp => ?_) hk
      rw [List.all_cons, Bool.and_eq_true] at hh
      rcases List.mem_cons.mp hp with rfl | hp
      · have h3 := hh.1
        unfold hitK at h3
        simp only [keyK_kD] at h3
        rcases hl.look k with ⟨_, z⟩ | ⟨v', d', z1, z2, z3⟩
        · rw [z] at h3; cases h3
        · rw [z2] at h3
          obtain ⟨e1, e2⟩ := scS_flat hv z3 h3
          exact ⟨by rw [z1, e1], e2⟩
      · exact ih hh.2 p hp
  · rw [if_neg h] at e; cases e
theorem eqK_true {x y : PyData} {z : Bool} (e : eqK x y = some z) : z = true ∧ ∃ ks ls, x = .dict ks ∧ y = .dict ls := by
  unfold eqK at e
  split at e
  · split at e
    · cases e; exact ⟨rfl, _, _, rfl, rfl⟩
    · cases e
  · cases e
def rEqK (neg : Bool) : R2 := fun x y H Q => ∃ a b ks ls, x = .ref a ∧ y = .ref b ∧ Rd H a (.dK ks) ∧ Rd H b (.dK ls) ∧ ks.length = ls.length ∧ (∀ p ∈ ks, valV ls p.1 = some p.2 ∧ flatB p.2 = true) ∧ Q (.bl (!neg)) H
theorem op_eqK (hu : X.A.units < cLine) : OpR X (compareOp .Eq) (rEqK false) := by
  rintro pins s σ H x y v u Q I rx ry ⟨a, b, ks, ls, rfl, rfl, ea, eb, hlen, hp, q⟩
  obtain rfl : v = Value.ref a := rx
  obtain rfl : u = Value.ref b := ry
  obtain ⟨_, ya, va, ra, da⟩ := dk_rd I.hok ea
  obtain ⟨_, yb, vb, rb, db⟩ := dk_rd I.hok eb
  refine PySem.W.keq_eq (knd := mixKind X.prog X.w) (r := true) ya yb da db hu (fun _ => hits_all rb ra hp) (fin_bl I q ?_)
  have : va.length = vb.length := by rw [← ra.length, ← rb.length, hlen]
  simp [this]
theorem op_neK (hu : X.A.units < cLine) : OpR X (compareOp .NotEq) (rEqK true) := by
  rintro pins s σ H x y v u Q I rx ry ⟨a, b, ks, ls, rfl, rfl, ea, eb, hlen, hp, q⟩
  obtain rfl : v = Value.ref a := rx
  obtain rfl : u = Value.ref b := ry
  obtain ⟨_, ya, va, ra, da⟩ := dk_rd I.hok ea
  obtain ⟨_, yb, vb, rb, db⟩ := dk_rd I.hok eb
  refine PySem.W.keq_ne (knd := mixKind X.prog X.w) (r := true) ya yb da db hu (fun _ => hits_all rb ra hp) (fin_bl I q ?_)
  have : va.length = vb.length := by rw [← ra.length, ← rb.length, hlen]
  simp [this]
theorem rd_same {G H : Hp} {a : Addr} {o : HO} (s : Same G H) (h : Rd G a o) : Rd H a o := by
  rcases h with h | ⟨o, h⟩
  · exact .inl (s _ _ h)
  · exact .inr ⟨o, s _ _ h⟩
theorem rd_eqK {neg : Bool} {g : PyData → PyData → Option PyData} (hg : ∀ x y, g x y = (eqK x y).map fun b => .bool (if neg then !b else b)) : Rd2 X.K (rEqK neg) g := by
  intro G H x y dx dy s Q sm hx hy e q
  rw [hg] at e
  obtain ⟨z, e1, rfl⟩ := Option.map_eq_some_iff.mp e
  obtain ⟨rfl, ks, ls, rfl, rfl⟩ := eqK_true e1
  obtain ⟨a, vs, rfl, h1, h2⟩ := hx.dic_ sm
  obtain ⟨b, us, rfl, h3, h4⟩ := hy.dic_ sm
  obtain ⟨k1, k2⟩ := eqK_spec h2 h4 e1
  refine ⟨a, b, vs, us, rfl, rfl, h1, h3, k1, k2, ?_⟩
  cases neg with
  | false => exact q _ G H (.refl sm) (.bl _)
  | true => exact q _ G H (.refl sm) (.bl _)
theorem units1 {A : Around} (hr : Room k A) : A.units < cLine := by have := hr.un; omega
theorem cmp_eqK (hr : Room k X.A) : CmpD X .Eq eqKD := ⟨_, op_eqK (units1 hr), rd_eqK fun x y => by unfold eqKD; congr⟩
theorem cmp_neK (hr : Room k X.A) : CmpD X .NotEq neKD := ⟨_, op_neK (units1 hr), rd_eqK fun x y => by unfold neKD; congr⟩

/-! ### the keys of a dict: the least, the greatest, in order -/
theorem dqkv_keys {G : Hp} {ks : List (K2 × V)} {ds : Kvs} (h : DqKv K G ks ds) : ds.map (·.1) = (ks.map (·.1)).map kD := DqKv.rec' (P := fun ks ds => ds.map (·.1) = (ks.map (·.1)).map kD) rfl (fun _ _ _ _ _ _ _ e => by simp [e]) h
theorem key_ints : ∀ {ks : List K2} {ns : List Int}, intsD (ks.map kD) = some ns → ks = ns.map Sum.inl
  | [], _, e => by cases e; rfl
  | .inl i :: r, _, e => by
    obtain ⟨ns, e1, rfl⟩ := Option.map_eq_some_iff.mp e
    rw [key_ints e1] <;> rfl
  | .inr _ :: _, _, e => by cases e
theorem keys_at {P : Program} {w : World} {ks : List (K2 × V)} {vs : List (K2 × Value)} {is : List Int} (rel : KV ks vs) (hv : ks.map (·.1) = is.map Sum.inl) :
    vs.length = is.length ∧ ∀ (i : Nat) (v : Value), (∃ k x, vs[i]? = some (k, x) ∧ (mixKind P w).is k v = true) → ∃ t, v = Value.int (is.getD i 0) t := by
  have hk : vs.map (·.1) = is.map Sum.inl := (KV.keys rel).symm.trans hv
  refine ⟨?_, ?_⟩
  · have e1 := congrArg List.length hk
    rwa [List.length_map, List.length_map] at e1
  · rintro i v ⟨k, x, h1, hkey⟩
    have e1 : (vs.map (·.1))[i]? = some k := by rw [List.getElem?_map, h1] <;> rfl
    rw [hk, List.getElem?_map] at e1
    obtain ⟨j, hj, rfl⟩ := Option.map_eq_some_iff.mp e1
    obtain ⟨t, e3⟩ := Value.isInt_shape (k := j) (v := v) hkey
    exact ⟨t, by rw [e3, List.getD_eq_getElem?_getD, hj] <;> rfl⟩
theorem getD_mem {is : List Int} {b : Nat} (h : b < is.length) : is.getD b 0 ∈ is := by
  rw [List.getD_eq_getElem?_getD, List.getElem?_eq_getElem h]
  exact List.getElem_mem h
def rBestK (p : Int → Int → Prop) : List V → Hp → VK → Prop := fun vs H Q => ∃ (a : Addr) (ks : List (K2 × V)) (is : List Int), vs = [V.ref a] ∧ Rd H a (.dK ks) ∧ ks.map (·.1) = is.map Sum.inl ∧ is ≠ [] ∧ ∀ m, m ∈ is → (∀ j ∈ is, p m j) → Q (.int m) H
theorem cr_minKr (hc : X.calm = true) : CallR X (.builtin "min") (rBestK fun m j => m ≤ j) := by
  rintro pins s σ H vs us Q I r ⟨a, ks, is, rfl, ha, hv, hne, q⟩
  rw [Vals.ref1 r]
  obtain ⟨_, hsys, vs, rel, dof⟩ := dk_rd I.hok ha
  obtain ⟨ep, dat⟩ := dof.dictAt
  have hlt : a < s.heap.objs.size := dat.lt_size
  obtain ⟨hlv, hval⟩ := keys_at (P := X.prog) (w := X.w) rel hv
  have hlen : 0 < vs.length := by rw [hlv]; exact List.length_pos_iff.mpr hne
  refine call_min_walk (wpAny_pyIter_dict (knd := mixKind X.prog X.w) hsys dat ⟨_, _, _, _, _, _, _, rfl, Walks.dictKeys (knd := mixKind X.prog X.w) (A := X.A.in1) (I.ok.hd hc) s.heap.objs.size a (Nat.ne_of_lt hlt) vs ep,
    ⟨⟨_, Heap.get?_push_size _ rfl, rfl, rfl⟩, dat.keep fun b u e => Heap.get?_push_of_some _ e⟩, fun b hb => ?_, hlen, CmpOf.ints_lt (fun i => is.getD i 0) hval, fun v h' tk hP hk => ?_⟩)
  · show b < (s.heap.push _).objs.size
    rw [Heap.size_push]
    simp only [List.mem_cons, List.not_mem_nil, or_false] at hb
    rcases hb with e | e
    · rw [e]; exact Nat.lt_succ_self _
    · rw [e]; exact Nat.lt_succ_of_lt hlt
  · obtain ⟨t, rfl⟩ := hval _ v hP
    obtain ⟨b1, b2⟩ := argBest_lt (fun i => is.getD i 0) (vs.length - 1)
    refine ⟨.int _, H, I.kept (t' := tk) fun b u e => hk b u (fun hm => ?_) (Heap.get?_push_of_some _ e), ⟨t, rfl⟩, q _ (getD_mem (by omega)) fun j hj => ?_⟩
    · rw [List.mem_singleton.mp hm] at e
      exact absurd (Heap.lt_size e) (Nat.lt_irrefl _)
    · obtain ⟨i, hi, rfl⟩ := List.mem_iff_getElem.mp hj
      have := b2 i (by omega)
      rwa [List.getD_eq_getElem?_getD (l := is) (i := i), List.getElem?_eq_getElem hi] at this
theorem cr_maxKr (hc : X.calm = true) : CallR X (.builtin "max") (rBestK fun m j => j ≤ m) := by
  rintro pins s σ H vs us Q I r ⟨a, ks, is, rfl, ha, hv, hne, q⟩
  rw [Vals.ref1 r]
  obtain ⟨_, hsys, vs, rel, dof⟩ := dk_rd I.hok ha
  obtain ⟨ep, dat⟩ := dof.dictAt
  have hlt : a < s.heap.objs.size := dat.lt_size
  obtain ⟨hlv, hval⟩ := keys_at (P := X.prog) (w := X.w) rel hv
  have hlen : 0 < vs.length := by rw [hlv]; exact List.length_pos_iff.mpr hne
  refine call_max_walk (wpAny_pyIter_dict (knd := mixKind X.prog X.w) hsys dat ⟨_, _, _, _, _, _, _, rfl, Walks.dictKeys (knd := mixKind X.prog X.w) (A := X.A.in1) (I.ok.hd hc) s.heap.objs.size a (Nat.ne_of_lt hlt) vs ep,
    ⟨⟨_, Heap.get?_push_size _ rfl, rfl, rfl⟩, dat.keep fun b u e => Heap.get?_push_of_some _ e⟩, fun b hb => ?_, hlen, CmpOf.ints_gt (fun i => is.getD i 0) hval, fun v h' tk hP hk => ?_⟩)
  · show b < (s.heap.push _).objs.size
    rw [Heap.size_push]
    simp only [List.mem_cons, List.not_mem_nil, or_false] at hb
    rcases hb with e | e
    · rw [e]; exact Nat.lt_succ_self _
    · rw [e]; exact Nat.lt_succ_of_lt hlt
  · obtain ⟨t, rfl⟩ := hval _ v hP
    obtain ⟨b1, b2⟩ := argBest_gt (fun i => is.getD i 0) (vs.length - 1)
    refine ⟨.int _, H, I.kept (t' := tk) fun b u e => hk b u (fun hm => ?_) (Heap.get?_push_of_some _ e), ⟨t, rfl⟩, q _ (getD_mem (by omega)) fun j hj => ?_⟩
    · rw [List.mem_singleton.mp hm] at e
      exact absurd (Heap.lt_size e) (Nat.lt_irrefl _)
    · obtain ⟨i, hi, rfl⟩ := List.mem_iff_getElem.mp hj
      have := b2 i (by omega)
      rwa [List.getD_eq_getElem?_getD (l := is) (i := i), List.getElem?_eq_getElem hi] at this
def minKD (x : PyData) : Option PyData := (kvOf x).bind fun ds => (intsD (ds.map (·.1))).bind fun ns => (minI ns).map .int
def maxKD (x : PyData) : Option PyData := (kvOf x).bind fun ds => (intsD (ds.map (·.1))).bind fun ns => (maxI ns).map .int
theorem minI_spec : ∀ {ns : List Int} {m : Int}, minI ns = some m → ns ≠ [] ∧ ∀ m', m' ∈ ns → (∀ j ∈ ns, m' ≤ j) → m' = m
  | [], _, e => by cases e
  | n :: r, m, e => by
    cases e
    obtain ⟨k1, k2⟩ := minI_is r n
    exact ⟨by simp, fun m' h1 h2 => Int.le_antisymm (h2 _ k1) (k2 _ h1)⟩
theorem maxI_spec : ∀ {ns : List Int} {m : Int}, maxI ns = some m → ns ≠ [] ∧ ∀ m', m' ∈ ns → (∀ j ∈ ns, j ≤ m') → m' = m
  | [], _, e => by cases e
  | n :: r, m, e => by
    cases e
    obtain ⟨k1, k2⟩ := maxI_is r n
    exact ⟨by simp, fun m' h1 h2 => Int.le_antisymm (k2 _ h1) (h2 _ k1)⟩
theorem cd_minK (hc : X.calm = true) : CallD X (.builtin "min") minKD := ⟨_, cr_minKr hc, by
  intro G H x dx d Q sm hx e q
  obtain ⟨ds, e1, e⟩ := Option.bind_eq_some_iff.mp e
  obtain ⟨ns, e2, e⟩ := Option.bind_eq_some_iff.mp e
  obtain ⟨m, e3, rfl⟩ := Option.map_eq_some_iff.mp e
  obtain rfl := kvOf_some e1
  obtain ⟨a, ks, rfl, h1, h2⟩ := hx.dic_ sm
  rw [dqkv_keys h2] at e2
  obtain ⟨k1, k2⟩ := minI_spec e3
  exact ⟨a, ks, ns, rfl, h1, key_ints e2, k1, fun m' h3 h4 => by rw [k2 m' h3 h4]; exact q _ G H (.refl sm) (.int _)⟩⟩
theorem cd_maxK (hc : X.calm = true) : CallD X (.builtin "max") maxKD := ⟨_, cr_maxKr hc, by
  intro G H x dx d Q sm hx e q
  obtain ⟨ds, e1, e⟩ := Option.bind_eq_some_iff.mp e
  obtain ⟨ns, e2, e⟩ := Option.bind_eq_some_iff.mp e
  obtain ⟨m, e3, rfl⟩ := Option.map_eq_some_iff.mp e
  obtain rfl := kvOf_some e1
  obtain ⟨a, ks, rfl, h1, h2⟩ := hx.dic_ sm
  rw [dqkv_keys h2] at e2
  obtain ⟨k1, k2⟩ := maxI_spec e3
  exact ⟨a, ks, ns, rfl, h1, key_ints e2, k1, fun m' h3 h4 => by rw [k2 m' h3 h4]; exact q _ G H (.refl sm) (.int _)⟩⟩

/-! ### sorted(d) -/
theorem each_of_reads' {α : Type} {R : Value → α → Prop} : ∀ {vs : List Value} {ds : List α}, vs.length = ds.length → (∀ (i : Nat) v d, vs[i]? = some v → ds[i]? = some d → R v d) → PySem.W.EachIs R vs ds
  | [], [], _, _ => .nil
  | [], _ :: _, h, _ => by cases h
  | _ :: _, [], h, _ => by cases h
  | v :: vs, d :: ds, h, k => .cons (k 0 v d rfl rfl) (each_of_reads' (Nat.succ.inj h) fun i v d h1 h2 => k (i + 1) v d (by simpa using h1) (by simpa using h2))
def leK (k k' : K2) : Bool := PySem.W.dataLe false id (kD k) (kD k')
def rSortK : List V → Hp → VK → Prop := fun vs H Q => ∃ (a : Addr) (ks : List (K2 × V)), vs = [V.ref a] ∧ Rd H a (.dK ks) ∧ alikesB ((ks.map (·.1)).map kD) = true ∧ sortB ((ks.map (·.1)).map kD) = true ∧
  ∀ p, H p = none → Q (.ref p) (upd H p (.lst (((ks.map (·.1)).mergeSort leK).map kV)))
theorem is_key {P : Program} {w : World} {k : K2} {v : Value} (h : (mixKind P w).is k v = true) : RelV (kV k) v ∧ ∀ hp : Heap, Reads hp v (kD k) [] := by
  rcases keyIs_shape (show keyIs k v = true from h) with ⟨i, t, rfl, rfl⟩ | ⟨z, t, rfl, rfl⟩
  · exact ⟨⟨t, rfl⟩, fun _ => .int _ _⟩
  · exact ⟨⟨t, rfl⟩, fun _ => .str _ _⟩
theorem cr_sortK (hc : X.calm = true) (hr : Room k X.A) : CallR X (.builtin "sorted") rSortK := by
  rintro pins s σ H vs us Q I r ⟨a, ks, rfl, ha, hal, hso, q⟩
  rw [Vals.ref1 r]
  obtain ⟨hz, hsys, vs, rel, dof⟩ := dk_rd I.hok ha
  obtain ⟨ep, hat⟩ := dof.dictAt
  have hkeys : vs.map (·.1) = ks.map (·.1) := (KV.keys rel).symm
  have hl : vs.length = ks.length := by
    have e := congrArg List.length hkeys
    rwa [List.length_map, List.length_map] at e
  refine Calls.call_function_entry PyProof.Rows.kind_sorted PyProof.Rows.plain_sorted PyProof.Rows.entry_sorted (PyProof.Rows.args_sorted1 _) ?_
  unfold Builtin.«sorted»
  refine wpAny_bind (m := checkCount "sorted" 1 1 _) (wpAny_pure ?_)
  refine wpAny_bind (PySem.W.kdu_collect (A := X.A.in1) (PySem.W.kdl_dict (knd := mixKind X.prog X.w) (kvs := vs) (ep := ep) hsys) (I.ok.hd hc) hat (by rw [hl]; exact hz) fun h' tk acc hk hacc => ?_)
  have hal' : acc.toList.length = (ks.map (·.1)).length := by rw [Array.length_toList, hacc.1, hl, List.length_map]
  have at_ : ∀ (i : Nat) (u : Value) (k : K2), acc.toList[i]? = some u → (ks.map (·.1))[i]? = some k → RelV (kV k) u ∧ ∀ hp : Heap, Reads hp u (kD k) [] := fun i u k e1 e2 => by
    obtain ⟨k', x, e3, e4⟩ := hacc.2 i u (by rw [← Array.getElem?_toList]; exact e1)
    have e5 : (vs.map (·.1))[i]? = some k' := by rw [List.getElem?_map, e3] <;> rfl
    rw [hkeys, e2] at e5; cases e5
    exact is_key e4
  have I1 : Inv X pins σ H { s with heap := h', toks := tk } := I.kept hk
  refine wpAny_bind (wpAny_newList ?_ (by rw [hal', List.length_map]; exact hz))
  have hoL : (h'.push (seqObj "list" acc.toList.toArray 0)).get? h'.objs.size = some (seqObj "list" acc.toList.toArray 0) := Heap.get?_push_size _ rfl
  show wpAny _ _ _ _ _ { s with heap := h'.push (seqObj "list" acc.toList.toArray 0), toks := tk }
  have e0 : PySem.W.EachIs (fun u k => RelV (kV k) u) acc.toList (ks.map (·.1)) := each_of_reads' hal' fun i u k h1 h2 => (at_ i u k h1 h2).1
  have er : PySem.W.EachIs (fun u k => ∃ as, Reads (h'.push (seqObj "list" acc.toList.toArray 0)) u (kD k) as ∧ h'.objs.size ∉ as) acc.toList (ks.map (·.1)) := each_of_reads' hal' fun i u k h1 h2 => ⟨[], (at_ i u k h1 h2).2 _, List.not_mem_nil⟩
  refine wpAny_bind (wpAny_holding (PySem.W.list_sort_data (enc := kD) (s := { s with heap := h'.push (seqObj "list" acc.toList.toArray 0), toks := tk }) hoL e0 er (alikesB_of hal) (sortB_of hso) (by rw [List.length_map]; exact hz) (fun d hm => ?_) fun out ho eo => ?_))
  · have := hr.un
    have hd : (kD d).depth = 0 := by cases d <;> rfl
    show X.A.units + 1 + 1 + (kD d).depth < cLine
    omega
  · obtain ⟨e', he'⟩ := PyProof.Rows.sortedHeap_at (vs := acc.toList) (out := out.toArray) hoL
    have key : ∀ {us : List Value} {ms : List K2}, PySem.W.EachIs (fun u k => RelV (kV k) u) us ms → Vals (ms.map kV) us := by
      intro us ms h
      induction h with
      | nil => exact .nil
      | cons h _ ih => exact .cons h ih
    have hys : (((ks.map (·.1)).mergeSort (PySem.W.dataLe false kD)).map kV).length ≤ sizeLine := by rw [List.length_map, List.length_mergeSort, List.length_map]; exact hz
    refine wpAny_pure ⟨_, rfl, .ref h'.objs.size, upd H h'.objs.size (.lst (((ks.map (·.1)).mergeSort (PySem.W.dataLe false kD)).map kV)), I1.laid (t' := tk) (fun b u e => ?_) (Nat.le_refl _) ⟨hys, out, e', key eo, by simpa using he'⟩, rfl, q _ (I1.hok.fresh (Nat.le_refl _))⟩
    have hb : b < h'.objs.size := Heap.lt_size e
    rw [PyProof.Rows.sortedHeap_old (Nat.ne_of_lt hb) (by rw [size_push']; exact Nat.lt_succ_of_lt hb)]
    exact Heap.get?_push_of_some _ e
def sortedKS (x : PyData) : Option Sl := (kvOf x).bind fun ds => if alikesB (ds.map (·.1)) && sortB (ds.map (·.1)) then some (.l (sortL (ds.map (·.1)))) else none
theorem cf_sortedK (hc : X.calm = true) (hr : Room k X.A) : CallF X (.builtin "sorted") sortedKS := ⟨_, cr_sortK hc hr, by
  intro G H x dx s Q sm hx e q
  obtain ⟨ds, e1, e2⟩ := Option.bind_eq_some_iff.mp e
  clear e
  obtain rfl := kvOf_some e1
  by_cases h : (alikesB (ds.map (·.1)) && sortB (ds.map (·.1))) = true
  · rw [if_pos h] at e2
    cases e2
    rw [Bool.and_eq_true] at h
    obtain ⟨a, ks, rfl, h1, h2⟩ := hx.dic_ sm
    rw [dqkv_keys h2] at h q
    refine ⟨a, ks, rfl, h1, h.1, h.2, fun p hp => ?_⟩
    have em : ((ks.map (·.1)).mergeSort leK).map kD = sortL ((ks.map (·.1)).map kD) := List.map_mergeSort fun _ _ _ _ => rfl
    have hd : DqAll X.K G (((ks.map (·.1)).mergeSort leK).map kV) (sortL ((ks.map (·.1)).map kD)) := by
      rw [← em]
      generalize (ks.map (·.1)).mergeSort leK = l
      induction l with
      | nil => exact .nil
      | cons k l ih => exact .cons (kD_dq k) ih
    obtain ⟨m1, m2, m3⟩ := new_list sm hp hd
    exact q _ _ _ m1 m2 m3
  · rw [if_neg h] at e2; cases e2⟩
end
end DL

set_option Elab.async false
set_option linter.all false
set_option maxRecDepth 100000
/-! The D layer, 12: d.values(), d.items() as things; lists backwards; d.clear(). -/
namespace DL
open PySem PySem.Spec PyProof.Rows L2
/-- the view d.values() at p -/
def valsO (p d : Addr) : HO := .ext fun h => h.IsValuesView p d
theorem valsO_ok {P : Program} {w : World} {H : Hp} {h : Heap} {p d : Addr} (e : h.get? p = some { cls := .type "dict_values", data := .fields #[.ref d] }) : ObjOk P w H h p (valsO p d) :=
  ⟨⟨_, e, rfl, rfl⟩, ⟨_, e⟩, fun h1 h2 ⟨o, ho, r⟩ k => ⟨o, k o ho, r⟩⟩
section
variable {X : Cx} {a b c e : Expr} {pos : Pos} {fa fb : En → Option PyData} {k : Nat} {K : PySem.W.Frag}
def tVals (td : TE) : TE := fun σ H Q => td σ H fun x H1 => ∃ d ks, x = .ref d ∧ Rd H1 d (.dK ks) ∧ ∀ p, H1 p = none → Q (.ref p) (upd H1 p (valsO p d))
theorem pe_vals {td : TE} {apos cpos : Pos} (he : PE X e td) (hbase : attributeBase e "values" X.env (eval e X.env) = eval e X.env := by rfl) (hline : (apos.endLine == cpos.line) = true := by rfl) : PE X (.Call (.Attribute e "values" apos) [] [] cpos) (tVals td) := by
  refine ⟨fun pins s σ H Q I h => ?_⟩
  refine wpAny_Call_method (T := "dict") (id := "dict.values") hbase rfl hline F.plainAttrs_dict F.slot_dict_values F.type_dict_values (thn (he.run pins s σ H _ I h) fun u s1 ⟨x, H1, I1, rx, d, ks, ex, hd, q⟩ => ?_)
  subst ex
  obtain rfl : u = Value.ref d := rx
  obtain ⟨_, hs, vs, rel, dof⟩ := dk_rd I1.hok hd
  refine ⟨dof.typeIs, dof.mapOf.noDict, ?_⟩
  have fin : EP X pins σ Q (.ref s1.heap.objs.size) { s1 with heap := s1.heap.push { cls := .type "dict_values", data := .fields #[.ref d] } } :=
    ⟨.ref s1.heap.objs.size, _, I1.laid (t' := s1.toks) (fun b u e => Heap.get?_push_of_some _ e) (Nat.le_refl _) (valsO_ok (Heap.get?_push_size _ rfl)), rfl, q _ (I1.hok.fresh (Nat.le_refl _))⟩
  show wpAny _ _ (callWith cpos (.builtin "dict.values") [.ref d] [] []) _ X.xe s1
  exact method_meetsIn F.slot_dict_values F.entry_dict_values rfl (PySem.evalArgs_none ⟨rfl, dof.typeIs, F.args_dict_values_1 _, _, meets_dict_values (mixKind X.prog X.w) d hs, ⟨vs, dof⟩, fin⟩)
def tItems (td : TE) : TE := fun σ H Q => td σ H fun x H1 => ∃ d ks, x = .ref d ∧ Rd H1 d (.dK ks) ∧ ∀ p, H1 p = none → Q (.ref p) (upd H1 p (DX.itemsO p d))
theorem pe_items {td : TE} {apos cpos : Pos} (he : PE X e td) (hbase : attributeBase e "items" X.env (eval e X.env) = eval e X.env := by rfl) (hline : (apos.endLine == cpos.line) = true := by rfl) : PE X (.Call (.Attribute e "items" apos) [] [] cpos) (tItems td) := by
  refine ⟨fun pins s σ H Q I h => ?_⟩
  refine wpAny_Call_method (T := "dict") (id := "dict.items") hbase rfl hline F.plainAttrs_dict F.slot_dict_items F.type_dict_items (thn (he.run pins s σ H _ I h) fun u s1 ⟨x, H1, I1, rx, d, ks, ex, hd, q⟩ => ?_)
  subst ex
  obtain rfl : u = Value.ref d := rx
  obtain ⟨_, hs, vs, rel, dof⟩ := dk_rd I1.hok hd
  refine ⟨dof.typeIs, dof.mapOf.noDict, ?_⟩
  have fin : EP X pins σ Q (.ref s1.heap.objs.size) { s1 with heap := s1.heap.push { cls := .type "dict_items", data := .fields #[.ref d] } } :=
    ⟨.ref s1.heap.objs.size, _, I1.laid (t' := s1.toks) (fun b u e => Heap.get?_push_of_some _ e) (Nat.le_refl _) (DX.itemsO_ok (Heap.get?_push_size _ rfl)), rfl, q _ (I1.hok.fresh (Nat.le_refl _))⟩
  show wpAny _ _ (callWith cpos (.builtin "dict.items") [.ref d] [] []) _ X.xe s1
  exact method_meetsIn F.slot_dict_items F.entry_dict_items rfl (PySem.evalArgs_none ⟨rfl, dof.typeIs, F.args_dict_items_1 _, _, meets_dict_items (mixKind X.prog X.w) d hs, ⟨vs, dof⟩, fin⟩)

/-! ### sum(d.values()) -/
def rSumVals : List V → Hp → VK → Prop := fun vs H Q => ∃ (p d : Addr) (ks : List (K2 × V)) (ns : List Int), vs = [V.ref p] ∧ H p = some (valsO p d) ∧ Rd H d (.dK ks) ∧ ks.map (·.2) = ns.map V.int ∧ Q (.int ns.sum) H
theorem preSum_list (ns : List Int) : preSum (fun i => ns.getD i 0) ns.length = ns.sum := by
  have key : ∀ n, n ≤ ns.length → preSum (fun i => ns.getD i 0) n = (ns.take n).sum := by
    intro n
    induction n with
    | zero => intro _; rfl
    | succ n ih =>
      intro h
      show preSum (fun i => ns.getD i 0) n + ns.getD n 0 = _
      have hn : n < ns.length := by omega
      have e : ns.getD n 0 = ns[n] := by rw [List.getD_eq_getElem?_getD, List.getElem?_eq_getElem hn]; rfl
      have e2 : ns.take (n + 1) = ns.take n ++ [ns[n]] := by simp
      rw [ih (by omega), e, e2, List.sum_append]
      simp
  rw [key _ (Nat.le_refl _), List.take_length]
theorem cr_sumVals (hc : X.calm = true) : CallR X (.builtin "sum") rSumVals := by
  rintro pins s σ H vs us Q I r ⟨p, d, ks, ns, rfl, hp, hd, hv, q⟩
  rw [Vals.ref1 r]
  have view : s.heap.IsValuesView p d := (show ObjOk X.prog X.w H s.heap p (valsO p d) from I.hok p _ hp).1
  obtain ⟨_, hs, vs, rel, dof⟩ := dk_rd I.hok hd
  obtain ⟨ep, dat⟩ := dof.dictAt
  have hl : vs.length = ns.length := by
    have e := congrArg List.length hv
    rw [List.length_map, List.length_map] at e
    rw [← rel.length]; exact e
  have hval : ∀ (i : Nat) (v : Value), (∃ k, vs[i]? = some (k, v)) → ∃ t, v = Value.int (ns.getD i 0) t := by
    rintro i v ⟨k, h1⟩
    obtain ⟨p', h2, h3, h4⟩ := DX.pget (show Paired _ ks vs from rel) h1
    have e1 : (ks.map (·.2))[i]? = some p'.2 := by rw [List.getElem?_map, h2] <;> rfl
    rw [hv, List.getElem?_map] at e1
    obtain ⟨j, hj, e2⟩ := Option.map_eq_some_iff.mp e1
    rw [← e2] at h4
    obtain ⟨t, rfl⟩ := h4
    exact ⟨t, by rw [List.getD_eq_getElem?_getD, hj] <;> rfl⟩
  refine call_sum_walkAnyS (wpAny_pyIter_values (knd := mixKind X.prog X.w) view dat ?_)
  refine ⟨_, _, _, _, vs.length, _, _, _, rfl, (Walks.dictValues (knd := mixKind X.prog X.w) (A := X.A.in1) (I.ok.hd hc) s.heap.objs.size d (Nat.ne_of_lt dat.lt_size) vs ep).toS,
    ⟨⟨_, Heap.get?_push_size _ rfl, rfl, rfl⟩, dat.push _⟩, fun b hb => ?_, hval, fun s' t' hm => ?_⟩
  · show b < (s.heap.push _).objs.size
    rw [Heap.size_push]
    rcases List.mem_cons.mp hb with e | hb
    · rw [e]; exact Nat.lt_succ_self _
    · rw [List.mem_singleton.mp hb]; exact Nat.lt_succ_of_lt dat.lt_size
  · rw [hl, preSum_list, Moved.eq_with hm]
    refine ⟨.int _, H, I.kept (h' := s'.heap) (t' := s'.toks) fun b u e => hm.heap b u (fun z => ?_) (Heap.get?_push_of_some _ e), ⟨t', rfl⟩, q⟩
    rw [List.mem_singleton.mp z] at e
    exact absurd (Heap.lt_size e) (Nat.lt_irrefl _)

theorem dqkv_vals {G : Hp} {ks : List (K2 × V)} {ds : Kvs} (h : DqKv K G ks ds) : DqAll K G (ks.map (·.2)) (ds.map (·.2)) := DqKv.rec' (P := fun (ks : List (K2 × V)) (ds : Kvs) => DqAll K G (ks.map Prod.snd) (ds.map Prod.snd)) .nil (fun _ _ _ _ _ h _ e => .cons h e) h
def sumValsD (x : PyData) : Option PyData := (kvOf x).bind fun ds => (intsD (ds.map (·.2))).map fun ns => .int ns.sum
variable {x : Str} {p apos cpos : Pos} {bid : String}
theorem pd_sumVals (hc : X.calm = true) (hg : Gl X x) (hm : X.mg x = none) (ha : PTp X a fa) (hv : bootBuiltins x = some (.builtin "sum") := by decide +kernel) (hn : x ≠ "__name__" := by decide) (hdb : (x == ("__debug__" : Str)) = false := by decide)
    (hbase : attributeBase a "values" X.env (eval a X.env) = eval a X.env := by rfl) (hline : (apos.endLine == cpos.line) = true := by rfl)
    (he : starEach [.Call (.Attribute a "values" apos) [] [] cpos] X.env = (false, eval (.Call (.Attribute a "values" apos) [] [] cpos) X.env) :: starEach [] X.env := by rfl) (hpl : (backTo pos (starEach [] X.env)).any (·.1) = false := by rfl) :
    PD X (.Call (.Name x p) [.Call (.Attribute a "values" apos) [] [] cpos] [] pos) (f1 sumValsD fa) :=
  pe_con (pe_callB (cr_sumVals hc) hg hm hv (pa_cons (pe_vals ha hbase hline) pa_nil he) hn hdb he hpl) fun σ H Q ⟨G, ρ, d, R, e, q⟩ => by
    obtain ⟨dx, e1, e2⟩ := f1_some e
    obtain ⟨ds, e3, e4⟩ := Option.bind_eq_some_iff.mp e2
    obtain ⟨ns, e5, rfl⟩ := Option.map_eq_some_iff.mp e4
    obtain rfl := kvOf_some e3
    refine ⟨G, ρ, _, R, e1, fun v G1 H1 x1 r1 => ?_⟩
    obtain ⟨a, ks, rfl, h1, h2⟩ := r1.dic_ x1.gh
    have hv' := dqkv_vals h2
    rw [intsD_eq e5] at hv'
    refine ⟨a, ks, rfl, h1, fun p hp => ⟨p, a, ks, ns, rfl, upd_same, ?_, dq_ints hv', ?_⟩⟩
    · exact rd_same (same_upd hp) h1
    · exact q _ G1 _ (x1.trans (.hidden x1.gh hp)) (.int _)

/-! ### xs[::-1] -/
def revS (x : PyData) : Option Sl := match x with
  | .list xs => some (.l xs.reverse)
  | _ => none
theorem DqAll.rev {G : Hp} : ∀ {vs : List V} {ds : List PyData}, DqAll K G vs ds → DqAll K G vs.reverse ds.reverse
  | _, _, .nil => .nil
  | _, _, .cons h t => by
    rw [List.reverse_cons, List.reverse_cons]
    exact (DqAll.rev t).app (.cons h .nil)
theorem pf_rev {j : Nat} {p1 p2 p3 : Pos} (ha : PTp X a fa) : PF X (.Subscript a (.Slice none none (some (.UnaryOp .USub (.Constant (.int 1) j p1) p2)) p3) pos) (f1 revS fa) := pe_con (pe_revL ha) fun σ H Q ⟨G, ρ, s, R, e, q⟩ => by
  obtain ⟨dx, e1, e2⟩ := f1_some e
  refine ⟨G, ρ, dx, R, e1, fun v G1 H1 x1 r1 => ?_⟩
  unfold revS at e2
  split at e2
  · cases e2
    obtain ⟨a, xs, rfl, h1, h2⟩ := r1.lst_ x1.gh
    refine ⟨a, xs, rfl, .of h1, fun p hp => ?_⟩
    obtain ⟨k1, k2, k3⟩ := new_list x1.gh hp h2.rev
    exact q _ _ _ (x1.trans k1) k2 fun o a z => x1.hh.free (k3 o a z)
  · cases e2
/-! ### d.clear() -/
def gClear (i : Nat) : En → Option Out := fun ρ => (ownK i ρ).map fun _ => .nx (ρ.set i (some (.k [])))
theorem sd_clear (i : Nat) {x : Str} {xp apos cpos : Pos} (hN : X.N[i]? = some x := by rfl) (hv : Vis X.env.scope x := by first | exact Or.inl rfl | exact Or.inr (Or.inl rfl) | exact Or.inr (Or.inr rfl)) (hd : (x == ("__debug__" : Str)) = false := by decide) (hcd : (x == ("__classdict__" : Str)) = false := by decide)
    (hbase : attributeBase (.Name x xp) "clear" X.env (eval (.Name x xp) X.env) = eval (.Name x xp) X.env := by rfl) (hline : (apos.endLine == cpos.line) = true := by rfl)
    (hsw : swapsWith (.Call (.Attribute (.Name x xp) "clear" apos) [] [] cpos) none pos.line X.env = pure false := by rfl) : PSD X (.Expr (.Call (.Attribute (.Name x xp) "clear" apos) [] [] cpos) pos) (gClear i) :=
  ps_con (ps_expr (pe_dclear (pv_own i hN hv hd hcd) hbase hline) hsw) fun D σ H ⟨G0, H0, G, ρ, o, R, e, q⟩ => by
    obtain ⟨ds, e1, rfl⟩ := Option.map_eq_some_iff.mp e
    obtain ⟨h1, a, ks, h2, h3, h4, h5⟩ := ownK_at R e1
    exact ⟨_, h2, .inr (.inr (.inl ⟨rfl, .inl ⟨ks, h4⟩⟩)), a, ks, rfl, rfl, h4, q σ G _ (rp_write R h1 rfl h2 h3 (.k h3 upd_same .nil))⟩
end
end DL

set_option Elab.async false
set_option linter.all false
set_option maxRecDepth 100000
/-! The D layer, 13: sorted(set(a list of ints)). -/
namespace DL
open PySem PySem.Spec PyProof.Rows L2
/-- the set object as set() lays it -/
abbrev sob (w : World) : Obj := { cls := .type "set", dict := none, data := .set #[] 0 (.fresh 0 0 (!w.params.followText "set-order")) }
section
variable {P : Program} {w : World} {A : Around} {E : Value → Shared → Prop} {s : Shared}
set_option maxHeartbeats 3200000 in
/-- set(list of ints) -/
theorem set_of_list {l : Addr} {its : Array Value} (ns : List Int) {Q : Value → Shared → Prop} (hh : A.handled = none) (hl : s.heap.IsList l its) (hi : IntsAre its.toList ns) (hb : ns.length + 1 < scanBound)
    (h : ∀ (h' : Heap) (tk c : Nat), SetR w h' s.heap.objs.size (fun j => decide (j ∈ ns)) c → c ≤ ns.length → (∀ b o, s.heap.get? b = some o → h'.get? b = some o) → Q (.ref s.heap.objs.size) { s with heap := h', toks := tk }) :
    wpAny (model P w) A (call (.type "set") [.ref l]) Q E s := by
  have hz : its.size = ns.length := by rw [← Array.length_toList]; exact IntsAre.length hi
  obtain ⟨c, tl, hmro⟩ := F.called_set.mro
  have hmade := F.called_set.made
  have hsub := F.called_set.sub
  refine wpAny_call (codeAny_of_tree ?_)
  show wpAny _ _ (callAny (.type "set") _) _ _ _
  refine wpAny_pure ⟨Code.quiet_builtin _ (by decide +kernel), codeAny_builtin F.entry_type_call ?_⟩
  rw [Around.under_plain (weight_type_call_type "set" [.ref l] []) rfl]
  have h1 := F.called_set.notType
  have h2 := F.called_set.canCreate
  have hct := F.typeCall_set_1 (.ref l)
  repeat (any_goals (first | assumption | wp_step))
  refine codeAny_mono (code_set_led1 (.ref l) (E := E) (Q₁ := fun obj s₁ => obj = .ref s.heap.objs.size ∧ s₁ = { s with heap := s.heap.push (sob w) }) ⟨rfl, rfl⟩) fun r s₁ hr => ?_
  cases r with
  | error e => exact hr
  | ok fl =>
    cases fl with
    | ret obj =>
      obtain ⟨rfl, rfl⟩ := hr
      have hS : (s.heap.push (sob w)).get? s.heap.objs.size = some (sob w) := Heap.get?_push_size _ rfl
      have hT : Shared.TypeIs { s with heap := s.heap.push (sob w) } (.ref s.heap.objs.size) "set" := ⟨_, hS, rfl⟩
      have hli := F.called_set.init.lookup
      have hbi := F.called_set.init.bind (.ref s.heap.objs.size)
      repeat (any_goals (first | assumption | wp_step))
      refine codeAny_mono (codeAny_call_builtin (R := wants (fun r s₂ => r = .none ∧ ∃ h' tk c, s₂ = { s with heap := h', toks := tk } ∧ SetR w h' s.heap.objs.size (fun j => decide (j ∈ ns)) c ∧ c ≤ ns.length ∧
          (∀ b o, s.heap.get? b = some o → h'.get? b = some o)) E) F.called_set.init.plain F.entry_set_init (check_set_init_1 hT ?_)) fun r₂ s₂ hr₂ => ?_
      · obtain ⟨ol, hol, hcl, nl, hdl⟩ := hl
        obtain ⟨ocls, odict, odata, oslots⟩ := ol
        simp only at hcl hdl
        subst hcl; subst hdl
        have hol' : (s.heap.push (sob w)).get? l = some { cls := .type "list", dict := odict, data := .seq its nl, slots := oslots } := Heap.get?_push_of_some _ hol
        have hsls := F.sub_list_set
        have hslf := F.sub_list_frozenset
        have hne : (Value.type "list" == Value.type "dict") = false := by decide
        have hl1 : (s.heap.push (sob w)).IsList l its := ⟨_, hol', rfl, nl, rfl⟩
        unfold Builtin.«set.__init__» noKeywords Builtin.Frozenset.updateFrom
        generalize hPI : pyIter = PI
        wp_walk
        subst hPI
        refine wpAny_pyIter_list hl1 (wpAny_bind (wpAny_runValue ?_))
        have hlS : l < s.heap.objs.size := Heap.lt_size hol
        have hh3 : A.in1.in1.in1.handled = none := by simp [hh]
        have hneI : l ≠ (s.heap.push (sob w)).objs.size := by rw [Heap.size_push]; exact Nat.ne_of_lt (Nat.lt_succ_of_lt hlS)
        have hSf : s.heap.objs.size ∉ [(s.heap.push (sob w)).objs.size, l] := by
          rw [Heap.size_push]
          intro z
          rcases List.mem_cons.mp z with z | z
          · exact Nat.ne_of_lt (Nat.lt_succ_self _) z
          · exact Nat.ne_of_gt hlS (List.mem_singleton.mp z)
        have hval : ∀ (i : Nat) (v : Value), its[i]? = some v → ∃ k t, ns[i]? = some k ∧ v = .int k t := fun i v hv => by
          have hi' : i < ns.length := by rw [← hz]; exact (Array.getElem?_eq_some_iff.mp hv).1
          obtain ⟨t, e⟩ := IntsAre.int_at hi i v (by rw [Array.getElem?_toList]; exact hv)
          exact ⟨ns[i], t, List.getElem?_eq_getElem hi', by rw [e, List.getD_eq_getElem?_getD, List.getElem?_eq_getElem hi'] <;> rfl⟩
        refine set_update_ints ((Walks.list hh3 _ l hneI its).toS) s.heap.objs.size hSf ns hz hb hval (its.size - 0) 0 _ (by omega) (Nat.zero_le _) ⟨⟨_, Heap.get?_push_size _ rfl, rfl, rfl⟩, (hl1.push _)⟩ ⟨0, Nat.le_refl 0, setR_new_at (Heap.get?_push_of_some _ hS)⟩ ?_
        intro s' c' hm hc' hS'
        obtain ⟨h', g2, d', tk', os'⟩ := s'
        obtain rfl : g2 = s.gens := hm.gens
        obtain rfl : d' = s.drawn := hm.drawn
        obtain rfl : os' = s.os := hm.os
        show wpAny _ _ _ _ _ _
        refine wpAny_pure ?_
        show wpAny _ _ (ret Value.none) _ _ _
        refine wpAny_pure ⟨rfl, h', tk', c', rfl, hS', by rw [← hz]; exact hc', fun b o e => ?_⟩
        have hb0 : b < s.heap.objs.size := Heap.lt_size e
        refine hm.heap b o (fun z => ?_) (Heap.get?_push_of_some _ (Heap.get?_push_of_some _ e))
        rcases List.mem_cons.mp z with z | z
        · exact Nat.ne_of_lt hb0 z
        · have z2 := List.mem_singleton.mp z
          rw [Heap.size_push] at z2
          exact Nat.ne_of_lt (Nat.lt_succ_of_lt hb0) z2
      · cases r₂ with
        | error e => exact hr₂
        | ok fl₂ =>
          cases fl₂ with
          | ret r =>
            obtain ⟨rfl, h', tk, c', rfl, hS', hc', hk'⟩ := hr₂
            repeat (any_goals (first | assumption | wp_step))
            exact h _ _ _ hS' hc' hk'
          | _ => exact hr₂.elim
    | _ => exact hr.elim
end
end DL

set_option Elab.async false
set_option linter.all false
set_option maxRecDepth 100000
/-! The D layer, 14: sorted(set(xs)). -/
namespace DL
open PySem PySem.Spec PyProof.Rows L2
section
variable {X : Cx} {a b c e : Expr} {pos : Pos} {fa fb : En → Option PyData} {k : Nat} {K : PySem.W.Frag}
def rSetL (K : PySem.W.Frag) (w : World) : List V → Hp → VK → Prop := fun vs H Q => ∃ (l : Addr) (ns : List Int), vs = [V.ref l] ∧ SqL K H l (ns.map V.int) ∧ ns.length + 1 < scanBound ∧ ∀ a n, H a = none → n ≤ ns.length → Q (.ref a) (upd H a (SetO w a (fun j => decide (j ∈ ns)) n))
theorem cr_setL (hc : X.calm = true) : CallR X (.type "set") (DL.rSetL X.K X.w) := by
  rintro pins s σ H vs us Q I r ⟨l, ns, rfl, hs, hb, q⟩
  obtain ⟨its, rv, hl, _⟩ := I.list hs
  rw [Vals.ref1 r]
  refine set_of_list ns (I.ok.hd hc) hl.isList rv.ints hb fun h' tk c R hcn hk => ?_
  exact ⟨.ref s.heap.objs.size, _, I.laid (t' := tk) hk (Nat.le_refl _) (setO_new R), rfl, q _ c (I.hok.fresh (Nat.le_refl _)) hcn⟩
/-- sorted(set(xs)), xs fewer than 64 ints -/
def insI (k : Int) : List Int → List Int
  | [] => [k]
  | x :: r => if k < x then k :: x :: r else if k = x then x :: r else x :: insI k r
theorem mem_insI {k j : Int} : ∀ {l : List Int}, j ∈ insI k l ↔ j = k ∨ j ∈ l
  | [] => by simp [insI]
  | x :: r => by
    unfold insI
    split
    · simp
    · split
      · next h => subst h; simp
      · rw [List.mem_cons, mem_insI, List.mem_cons]
        constructor
        · rintro (h | h | h)
          · exact .inr (.inl h)
          · exact .inl h
          · exact .inr (.inr h)
        · rintro (h | h | h)
          · exact .inr (.inl h)
          · exact .inl h
          · exact .inr (.inr h)
theorem insI_sorted {k : Int} : ∀ {l : List Int}, l.Pairwise (· < ·) → (insI k l).Pairwise (· < ·)
  | [], _ => by simp [insI]
  | x :: r, h => by
    have h0 := h
    rw [List.pairwise_cons] at h
    unfold insI
    split
    · next hk => exact List.pairwise_cons.mpr ⟨fun y hy => by
        rcases List.mem_cons.mp hy with e | hy
        · rw [e]; exact hk
        · have := h.1 y hy
          omega, h0⟩
    · split
      · exact h0
      · exact List.pairwise_cons.mpr ⟨fun y hy => by
          rcases mem_insI.mp hy with e | hy
          · rw [e]; omega
          · exact h.1 y hy, insI_sorted h.2⟩
def dedupI (ns : List Int) : List Int := ns.foldr insI []
theorem dedupI_spec : ∀ ns : List Int, (dedupI ns).Pairwise (· < ·) ∧ ∀ k, k ∈ dedupI ns ↔ k ∈ ns
  | [] => ⟨.nil, fun k => Iff.rfl⟩
  | n :: ns => by
    obtain ⟨h1, h2⟩ := dedupI_spec ns
    exact ⟨insI_sorted h1, fun k => by
      show k ∈ insI n (dedupI ns) ↔ _
      rw [mem_insI, h2, List.mem_cons]⟩
theorem sorted_unique : ∀ {l l' : List Int}, l.Pairwise (· < ·) → l'.Pairwise (· < ·) → (∀ k, k ∈ l ↔ k ∈ l') → l = l'
  | [], [], _, _, _ => rfl
  | [], x :: l', _, _, h => absurd ((h x).2 List.mem_cons_self) List.not_mem_nil
  | x :: l, [], _, _, h => absurd ((h x).1 List.mem_cons_self) List.not_mem_nil
  | x :: l, y :: l', p, p', h => by
    rw [List.pairwise_cons] at p p'
    have e : x = y := by
      rcases List.mem_cons.mp ((h x).1 List.mem_cons_self) with e | hx
      · exact e
      · rcases List.mem_cons.mp ((h y).2 List.mem_cons_self) with e | hy
        · exact e.symm
        · have := p.1 y hy
          have := p'.1 x hx
          omega
    subst e
    rw [sorted_unique p.2 p'.2 fun k => ?_]
    constructor
    · intro hk
      rcases List.mem_cons.mp ((h k).1 (List.mem_cons_of_mem _ hk)) with e | hk'
      · have := p.1 k hk
        omega
      · exact hk'
    · intro hk
      rcases List.mem_cons.mp ((h k).2 (List.mem_cons_of_mem _ hk)) with e | hk'
      · have := p'.1 k hk
        omega
      · exact hk'
def sortedSetS (x : PyData) : Option Sl := match x with
  | .list ds => (intsD ds).bind fun ns => if ns.length < 64 then some (.l ((dedupI ns).map PyData.int)) else none
  | _ => none
theorem dq_intsOf {G : Hp} (ns : List Int) : DqAll K G (ns.map V.int) (ns.map PyData.int) := by
  induction ns with
  | nil => exact .nil
  | cons n ns ih => exact .cons (.int n) ih
variable {x y : Str} {p p' q pos' : Pos}
theorem pf_sortedSet (hc : X.calm = true) (hg : Gl X x) (hm : X.mg x = none) (hg' : Gl X y) (hm' : X.mg y = none) (ha : PTp X a fa)
    (hv : bootBuiltins x = some (.builtin "sorted") := by decide +kernel) (hn : x ≠ "__name__" := by decide) (hdb : (x == ("__debug__" : Str)) = false := by decide)
    (hv' : bootBuiltins y = some (.type "set") := by decide +kernel) (hn' : y ≠ "__name__" := by decide) (hdb' : (y == ("__debug__" : Str)) = false := by decide)
    (he' : starEach [a] X.env = (false, eval a X.env) :: starEach [] X.env := by rfl) (hpl' : (backTo pos' (starEach [] X.env)).any (·.1) = false := by rfl)
    (he : starEach [.Call (.Name y p') [a] [] pos'] X.env = (false, eval (.Call (.Name y p') [a] [] pos') X.env) :: starEach [] X.env := by rfl) (hpl : (backTo pos (starEach [] X.env)).any (·.1) = false := by rfl) :
    PF X (.Call (.Name x p) [.Call (.Name y p') [a] [] pos'] [] pos) (f1 sortedSetS fa) :=
  pe_con (pe_callB (cr_sortedSet hc) hg hm hv (pa_cons (pe_callTy (cr_setL hc) hg' hm' hv' (pa_cons ha pa_nil he') hn' hdb' he' hpl') pa_nil he) hn hdb he hpl) fun σ H Q ⟨G, ρ, s, R, e, q⟩ => by
    obtain ⟨dx, e1, e2⟩ := f1_some e
    refine ⟨G, ρ, dx, R, e1, fun v G1 H1 x1 r1 => ?_⟩
    unfold sortedSetS at e2
    split at e2
    · next ds =>
      obtain ⟨ns, e3, e4⟩ := Option.bind_eq_some_iff.mp e2
      by_cases hl : ns.length < 64
      · rw [if_pos hl] at e4
        cases e4
        obtain ⟨l, rfl, h1⟩ := dt_ints x1.gh r1 (by rw [intsD_eq e3])
        refine ⟨l, ns, rfl, h1, by unfold scanBound; omega, fun b n hb hn => ⟨b, _, n, rfl, upd_same, by omega, fun ms p hp hms hlen hp0 => ?_⟩⟩
        have em : ms = dedupI ns := sorted_unique hp (dedupI_spec ns).1 fun k => by rw [hms k, (dedupI_spec ns).2 k, decide_eq_true_eq]
        subst em
        have x2 : Ext G1 H1 G1 (upd H1 b (SetO X.w b (fun j => decide (j ∈ ns)) n)) := .hidden x1.gh hb
        obtain ⟨k1, k2, k3⟩ := new_list x2.gh hp0 (dq_intsOf (K := X.K) (G := G1) (dedupI ns))
        exact q _ _ _ (x1.trans (x2.trans k1)) k2 fun o a z => x1.hh.free (x2.hh.free (k3 o a z))
      · rw [if_neg hl] at e4; cases e4
    · cases e2
end
end DL

set_option Elab.async false
set_option linter.all false
set_option maxRecDepth 100000
/-! The D layer, 15: the law's own def, entered with no repr under way; repr. -/
namespace DL
open PySem PySem.Spec PyProof.Rows L2
/-- a def's promise where no repr is under way -/
structure FnG (P : Program) (w : World) (K : PySem.W.Frag) (mg : Str → Option Value) (base : Heap) (k : Nat) (f : Addr) (fd : FuncData) (ps : List Str) (sp : Sp) : Prop where
  run : ∀ (A : Around) (outer : List Env) (s : Shared) (H : Hp) (args : Args) (us : List Value) (vs : List V) (Q : VK) (E : XK), A.guards = some [] → Room k A → Env0 P w K mg base A outer s H → BindsTo s fd args (ps.zip us) → Vals vs us → sp vs H Q E →
    codeAny (model P w) A (.call (.ref f) args) (CR CX0 outer P w H s Q E) s
section
variable {P : Program} {w : World} {K : PySem.W.Frag} {mg : Str → Option Value} {base : Heap}
theorem fnG_of {x qual : Str} {st : Stmt} {f : Addr} {fd : FuncData} {N ps : List Str} {k : Nat} {sp : Sp} (Fn : L2.Fun K x qual st f fd) (S : FnScope N ps (defScope st)) (len : ∀ vs H Q E, sp vs H Q E → vs.length = ps.length)
    (hb : ∀ (cdv : Value) (A : Around) (outer : List Env) (s : Shared) (H : Hp) (vs : List V) (Q : VK) (E : XK), A.guards = some [] → Room k (A.deeper (envOfC qual (defScope st) s.heap.objs.size f cdv)) → sp vs H Q E →
      ∃ t, PSs (cxOf CX0 P w K mg base N qual (defScope st) f cdv A outer s H E).nox (defBody st) t ∧ t { nx := fun _ H' => Q .non H', rt := Q } (start N vs) H) : FnG P w K mg base (k + 1) f fd ps sp := by
  obtain ⟨oc, od, kV, doc, pm, an, cdv, ct, osl, rfl, lk, hcd⟩ := Fn.ex
  refine ⟨fun A outer s H args us vs Q E hg hr e0 hbd r hsp => ?_⟩
  have hl := len _ _ _ _ hsp
  have hK : K.In s.heap := e0.mod.kin.keeps fun b o e => (e0.bs b o e).1
  have hlim : s.heap.NoLimit := e0.mod.nolimit.keeps fun b o e => (e0.bs b o e).1
  refine codeAny_call_function hr.depth (hK _ _ lk) rfl S.co S.gen rfl (PySem.W.codeRec_of hK hcd) (hbd _ _ _ _ (wpAny_newFunctionEnv_cells S.kind (fun y hy => ?_) fun env he s1 x => ?_))
  · rcases S.par y.1 (List.of_mem_zip hy).1 with q | q
    · exact .inl q
    · exact .inr ⟨q, PySem.W.cellsFrom_some _ _ _ (.inl q)⟩
  · subst he
    refine ⟨hlim.keeps x.toInCall.keep, codeAny_func ?_⟩
    obtain ⟨t, ht, hq⟩ := hb cdv A outer s H vs Q E hg (hr.deeper _) hsp
    have I := inv_start (CX := CX0) (E := E) S hr.hd e0 hl r x
    have fin : ∀ {σ' : St} {H' : Hp} {v : V} {u : Value} {s' : Shared}, Inv (cxOf CX0 P w K mg base N qual (defScope st) f cdv A outer s H E) [] σ' H' s' → RelV v u → Q v H' → CE outer P w H s Q u s' := fun J rv q => ⟨_, _, J.os, J.bare, J.base, J.hok, rv, q⟩
    refine wpAny_mono (ht.nox.run [] s1 (start N vs) H _ I hq) (fun fl s' hs => ?_) fun e s' hs => hs
    cases fl with
    | ret u => obtain ⟨v, σ', H', J, rv, q⟩ := hs; exact fin J rv q
    | next => obtain ⟨σ', H', J, q⟩ := hs; exact fin (v := V.non) (u := Value.none) J rfl q
    | brk => obtain ⟨_, _, _, q⟩ := hs; exact q.elim
    | cont => obtain ⟨_, _, _, q⟩ := hs; exact q.elim
/-- the law called with its script -/
theorem law_callG {mb : Str → Option Value} {k : Nat} {fa a : Addr} {fd : FuncData} {x : Str} {sp : Sp} {s₁ : Shared} {vs : List Value} {ns : List Int}
    (hK : K.In s₁.heap) (hns : s₁.heap.Ns mainGlobals mg) (hmb : s₁.heap.Ns builtinsNs mb) (hbb : ∀ x : Str, x ≠ "__name__" → mb x = bootBuiltins x) (hlim : s₁.heap.NoLimit) (hg : s₁.gens = #[])
    (ha : s₁.heap.get? a = some { cls := .type "list", data := .seq vs.toArray }) (hi : IntsAre vs ns) (hl : ns.length ≤ sizeLine) (hr : Room k callerA)
    (F : ∀ base : Heap, K.In base → base.Ns mainGlobals mg → FnG P w K mg base k fa fd [x] sp) (hbind : ∀ (s : Shared) (u : Value), BindsTo s fd ⟨[u], []⟩ [(x, u)])
    (hsp : ∀ H : Hp, Only H → SqL K H a (ns.map V.int) → sp [.ref a] H (fun v _ => v = .bl true) fun _ _ _ => False) :
    codeAny (model P w) callerA (.call (.ref fa) ⟨[.ref a], []⟩) (fun r s' => r = .ok (.ret (.bool true)) ∧ OldK s₁.heap s'.heap ∧ s'.os = s₁.os ∧ AllBare s'.gens) s₁ := by
  have rv := vals_ints hi
  have lenV := hi.length
  -- H tracks nothing, or the script alone
  have main : ∀ H : Hp, Only H → SqL K H a (ns.map V.int) → HOk P w H s₁.heap → (∀ b, H b ≠ none → b = a ∧ K.lookup b = none) → codeAny (model P w) callerA (.call (.ref fa) ⟨[.ref a], []⟩) (fun r s' => r = .ok (.ret (.bool true)) ∧ OldK s₁.heap s'.heap ∧ s'.os = s₁.os ∧ AllBare s'.gens) s₁ := by
    intro H hO hS hok hA
    have freeD : ∀ {b : Addr} {o : Obj}, s₁.heap.get? b = some o → (b = a → K.lookup b = none → False) → (hidT s₁.heap H).get? b = some o := fun {b o} e n => hidT_get e (by
      cases q : H b with
      | none => rfl
      | some u => exact (n (hA b (by rw [q]; exact fun z => nomatch z)).1 (hA b (by rw [q]; exact fun z => nomatch z)).2).elim)
    have nsT : ∀ {b : Addr} {m : Str → Option Value}, s₁.heap.Ns b m → (hidT s₁.heap H).Ns b m := fun {b m} ⟨o, es, ep, e, d, r⟩ => ⟨o, es, ep, freeD e (fun z _ => by
      rw [z, ha] at e
      cases e
      have d' : Data.seq vs.toArray _ = Data.dict es ep := d
      cases d'), d, r⟩
    have inT : K.In (hidT s₁.heap H) := fun b o e => freeD (hK b o e) fun _ z => by rw [z] at e; cases e
    have md : Mod K mg (hidT s₁.heap H) := ⟨inT, nsT hns, ⟨mb, nsT hmb, hbb⟩, let ⟨mc, h1, h2⟩ := hlim; ⟨mc, nsT h1, h2⟩⟩
    have e0 : Env0 P w K mg (hidT s₁.heap H) callerA [] s₁ H := ⟨rfl, md, fun b o e => of_hidT e, Nat.le_of_eq (hidT_size _ _), trivial, fun b hb => (nomatch (show b ∈ ([] : List Addr) from hb)), hok, .of_eq hg⟩
    refine codeAny_mono ((F _ inT (nsT hns)).run callerA [] s₁ H _ [.ref a] [.ref a] _ _ rfl hr e0 (hbind s₁ (.ref a)) (.cons rfl .nil) (hsp H hO hS)) fun r s' h => ?_
    match r, h with
    | .error e, h => exact (show False from h).elim
    | .ok .next, h => exact (show False from h).elim
    | .ok .brk, h => exact (show False from h).elim
    | .ok .cont, h => exact (show False from h).elim
    | .ok (.ret u), h =>
      obtain ⟨v, H', os, bare, un, hok', r', q⟩ := h
      obtain rfl : v = .bl true := q
      obtain rfl : u = Value.bool true := r'
      refine ⟨rfl, OldK.of_keep fun b o e => ?_, os, bare⟩
      rcases hO b with z | ⟨ob, xs, z⟩
      · exact un.keep b o e z (fun y => nomatch (show b ∈ ([] : List Addr) from y)) (by simp)
      · obtain ⟨e1, _⟩ := hok b _ z
        obtain ⟨e2, _⟩ := hok' b _ (un.frzs b ob _ z)
        rw [e] at e1; cases e1
        exact e2
  cases hk : K.lookup a with
  | some o =>
    have e := hK a o hk
    rw [ha] at e; cases e
    exact main (fun _ => none) (fun _ => .inl rfl) (.inr ⟨_, vs.toArray, _, hk, rfl, rfl, rfl, by rw [List.size_toArray, lenV]; exact hl, by simpa using rv⟩) (fun b u z => (nomatch (show (none : Option HO) = some u from z))) (fun b z => absurd rfl z)
  | none =>
    have at_ : ∀ (b : Addr) (u : HO), (if b = a then some (HO.frz { cls := .type "list", data := .seq vs.toArray } (.lst (ns.map V.int))) else none) = some u → b = a ∧ u = .frz { cls := .type "list", data := .seq vs.toArray } (.lst (ns.map V.int)) := fun b u z => by
      split at z
      · next e => cases z; exact ⟨e, rfl⟩
      · cases z
    refine main (fun b => if b = a then some (HO.frz { cls := .type "list", data := .seq vs.toArray } (.lst (ns.map V.int))) else none) (fun b => ?_) (.inl (.inr ⟨{ cls := .type "list", data := .seq vs.toArray }, if_pos rfl⟩)) (fun b u z => ?_) (fun b z => ?_)
    · by_cases hb : b = a
      · exact .inr ⟨_, _, if_pos hb⟩
      · exact .inl (if_neg hb)
    · obtain ⟨rfl, rfl⟩ := at_ b u z
      exact ⟨ha, by rw [List.length_map]; exact hl, vs, _, rv, ha⟩
    · by_cases hb : b = a
      · exact ⟨hb, by rw [hb]; exact hk⟩
      · exact absurd (if_neg hb) z
end
/-- the goal that the head leaves, the script's bits known -/
theorem walk_G {l : PySem.W.OpenLaw} {n k : Nat} {q : Program} {loose : List Str} {XP : (Str → Option Value) → Heap → Prop} {YP : World → Heap → Prop} {d : DefRec} {K : Params → PySem.W.Frag} {sp : World → Sp} {x : Str}
    (hn : l.most = some n) (hn2 : n ≤ sizeLine) (hdf : d.params.defaults = []) (hr : Room k callerA)
    (hY : ∀ (w : World) (h : Heap), YP w h → (K w.params).In h)
    (F : ∀ (w : World) (mg : Str → Option Value) (fa : Addr) (h : Heap), (K w.params).In h → h.Ns mainGlobals mg → mg d.name = some (.ref fa) →
      ∃ fd : FuncData, (∀ (s : Shared) (u : Value), BindsTo s fd ⟨[u], []⟩ [(x, u)]) ∧
        ∀ base : Heap, (K w.params).In base → base.Ns mainGlobals mg → FnG l.prog w (K w.params) mg base k fa fd [x] (sp w))
    (hsp : ∀ (w : World) (H : Hp) (a : Addr) (ns : List Int), ns.length ≤ n → (∀ z ∈ ns, Builtin.Int.intBits z ≤ 1048576) → Only H → SqL (K w.params) H a (ns.map V.int) → sp w [.ref a] H (fun v _ => v = .bl true) fun _ _ _ => False) :
    PySem.W.WalkO q loose XP YP l.row.toRowW d [] (fun f vs => PySem.call f vs) := by
  refine Att.attach_callB hn hdf fun w s₀ s₁ mg mb fa o pm cd doc a vs ns G Y _ _ _ hmg hobj hints hlen hbits hg => ?_
  obtain ⟨fd, hb, hF⟩ := F w mg fa _ (hY w _ Y) G.T.g hmg
  exact law_callG (hY w _ Y) G.T.g G.T.b G.T.builtins G.T.nolimit hg hobj hints (Nat.le_trans hlen hn2) hr hF hb fun H hO hS => hsp w H a ns hlen hbits hO hS
end DL

set_option Elab.async false
set_option linter.all false
set_option maxRecDepth 100000
/-! The D layer, 16: repr of data without dicts; the law's def. -/
namespace DL
open PySem PySem.Spec PyProof.Rows L2
section
variable {X : Cx} {a b c e : Expr} {pos : Pos} {fa fb : En → Option PyData} {k : Nat} {K : PySem.W.Frag}
theorem okD_hasDict : ∀ n, (∀ d, okD n d = true → d.hasDict = false) ∧ ∀ ds, okAll n ds = true → PyData.hasDictAll ds = false := by
  intro n
  induction n with
  | zero =>
    have h1 : ∀ d, okD 0 d = true → d.hasDict = false := fun d h => by
      cases d <;> first | rfl | (simp only [okD] at h; cases h; done) | (simp [okD] at h; done)
    refine ⟨h1, fun ds => ?_⟩
    induction ds with
    | nil => intro _; rfl
    | cons d ds ih =>
      intro h
      rw [okAll, Bool.and_eq_true] at h
      simp only [PyData.hasDictAll, h1 d h.1, ih h.2, Bool.or_false]
  | succ n ih =>
    have h1 : ∀ d, okD (n + 1) d = true → d.hasDict = false := fun d h => by
      cases d with
      | list ds => rw [okD] at h; simp only [PyData.hasDict]; exact ih.2 ds h
      | tuple ds => rw [okD] at h; simp only [PyData.hasDict]; exact ih.2 ds h
      | dict ds => first | (simp only [okD] at h; cases h; done) | (simp [okD] at h; done)
      | _ => rfl
    refine ⟨h1, fun ds => ?_⟩
    induction ds with
    | nil => intro _; rfl
    | cons d ds ih =>
      intro h
      rw [okAll, Bool.and_eq_true] at h
      simp only [PyData.hasDictAll, h1 d h.1, ih h.2, Bool.or_false]
def reprB (d : PyData) : Bool := okD 60 d && d.showable && decide (d.shown.length ≤ most)
def reprD (d : PyData) : Option PyData := match d with
  | .none => some (.str "None")
  | .int i => if i.natAbs.log2 < 1920 then some (.str (toString i)) else none
  | .list ds => if reprB (.list ds) then some (.str (PyData.list ds).shown) else none
  | .tuple ds => if reprB (.tuple ds) then some (.str (PyData.tuple ds).shown) else none
  | _ => none
theorem reprD_is {d s : PyData} (h : reprD d = some s) : s = .str d.shown := by
  unfold reprD at h
  split at h
  · cases h; rfl
  · split at h
    · cases h; rfl
    · cases h
  · split at h
    · cases h; rfl
    · cases h
  · split at h
    · cases h; rfl
    · cases h
  · cases h
def rRepr (K : PySem.W.Frag) : List V → Hp → VK → Prop := fun vs H Q => ∃ (v : V) (d : PyData), vs = [v] ∧
  ((v = .non ∧ Q (.str "None") H) ∨ (∃ i, v = .int i ∧ i.natAbs.log2 < 1920 ∧ Q (.str (toString i)) H) ∨ ((∃ a, v = .ref a) ∧ Dp K H v d ∧ reprB d = true ∧ Q (.str d.shown) H))
theorem cr_repr (hg : X.A.guards = some []) (hr : Room k X.A) : CallR X (.builtin "repr") (rRepr X.K) := by
  rintro pins s σ H vs us Q I r ⟨v, d, rfl, h⟩
  obtain ⟨u, rfl, ru⟩ := vals1 r
  rcases h with ⟨rfl, q⟩ | ⟨i, rfl, hz, q⟩ | ⟨⟨a, rfl⟩, hd, hb, q⟩
  · cases ru
    exact call_repr_gives (typeIs_none s) F.slot_NoneType_repr F.entry_NoneType_repr (F.args_NoneType_repr_1 _) gives_none_repr ⟨.str _, H, I.tok _, ⟨_, rfl⟩, q⟩
  · obtain ⟨t, rfl⟩ := ru
    exact PySem.P.repr_of_int hz ⟨.str _, H, I.tok _, ⟨_, rfl⟩, q⟩
  · obtain rfl : u = Value.ref a := ru
    unfold reprB at hb
    rw [Bool.and_eq_true, Bool.and_eq_true, decide_eq_true_eq] at hb
    obtain ⟨as, hrd⟩ := Dp.reads I d _ _ hd rfl
    have := okD_depth d _ hb.1.1
    have := hr.un
    exact repr_of_reads' hrd hb.1.2 (fun z => by rw [(okD_hasDict _).1 d hb.1.1] at z; cases z) hg (by omega) (fun _ _ e => e) (fun h' u tk hk => ⟨.str _, H, I.kept (t' := tk) hk, ⟨_, rfl⟩, q⟩) (most_line hb.2)
theorem cd_repr (hg : X.A.guards = some []) (hr : Room k X.A) : CallD X (.builtin "repr") reprD := ⟨_, cr_repr hg hr, by
  intro G H x dx d Q sm hx e q
  have he := reprD_is e
  subst he
  unfold reprD at e
  split at e
  · rw [hx.non_]; exact ⟨_, .none, rfl, .inl ⟨rfl, q _ G H (.refl sm) (.str _)⟩⟩
  · split at e
    · next hz => rw [hx.int_]; exact ⟨_, .none, rfl, .inr (.inl ⟨_, rfl, hz, q _ G H (.refl sm) (.str _)⟩)⟩
    · cases e
  · split at e
    · next hb =>
      obtain ⟨a, xs, rfl, h1, h2⟩ := hx.lst_ sm
      have hb' := hb
      unfold reprB at hb'
      rw [Bool.and_eq_true, Bool.and_eq_true] at hb'
      exact ⟨_, _, rfl, .inr (.inr ⟨⟨a, rfl⟩, hx.full sm (okD_flat _ _ hb'.1.1), hb, q _ G H (.refl sm) (.str _)⟩)⟩
    · cases e
  · split at e
    · next hb =>
      obtain ⟨a, xs, rfl, h1, _, h2⟩ := hx.tup_ sm
      have hb' := hb
      unfold reprB at hb'
      rw [Bool.and_eq_true, Bool.and_eq_true] at hb'
      exact ⟨_, _, rfl, .inr (.inr ⟨⟨a, rfl⟩, hx.full sm (okD_flat _ _ hb'.1.1), hb, q _ G H (.refl sm) (.str _)⟩)⟩
    · cases e
  · cases e⟩
end
section
variable {P : Program} {w : World} {K : PySem.W.Frag} {mg : Str → Option Value} {base : Heap}
/-- the law's own def: what it promises of its script -/
theorem fn_law {x qual : Str} {st : Stmt} {f : Addr} {fd : FuncData} {N ps : List Str} {k : Nat} {g : En → Option Out} {F : List Int → Option Sl} (Fn : L2.Fun K x qual st f fd) (S : FnScope N ps (defScope st)) (hp : ps.length = 1) (hF : ∀ ns s, F ns = some s → runS N.length g ns = some s)
    (hb : ∀ (cdv : Value) (A : Around) (outer : List Env) (s : Shared) (H : Hp) (E : XK), A.guards = some [] → Room k (A.deeper (envOfC qual (defScope st) s.heap.objs.size f cdv)) →
      PSSD (cxOf CX0 P w K mg base N qual (defScope st) f cdv A outer s H E).nox (defBody st) g) : FnG P w K mg base (k + 1) f fd ps (spS K F) :=
  fnG_of Fn S (fun vs H Q E ⟨G, a, ns, s, _, hv, _⟩ => by rw [hv, hp] <;> rfl) fun cdv A outer s H vs Q E hg hr h => ⟨_, hb cdv A outer s H E hg hr, body_endS hF h⟩
/-- the law's end: its def gives True at every script -/
theorem law_end {F : List Int → Option Sl} {n : Nat} (h : ∀ ns : List Int, ns.length ≤ n → (∀ z ∈ ns, Builtin.Int.intBits z ≤ 1048576) → F ns = some (.p (.bool true))) (H : Hp) (a : Addr) (ns : List Int) (h1 : ns.length ≤ n) (h2 : ∀ z ∈ ns, Builtin.Int.intBits z ≤ 1048576)
    (hO : Only H) (hS : SqL K H a (ns.map V.int)) : spS K F [.ref a] H (fun v _ => v = .bl true) fun _ _ _ => False :=
  ⟨H, a, ns, _, .refl _, rfl, hS, h ns h1 h2, fun v G' H' x r _ => by cases r with | p r => cases r; rfl⟩
end
end DL

set_option Elab.async false
set_option linter.all false
set_option maxRecDepth 100000
/-! The D layer, 17: a for over an own list or dict, that stays own. -/
namespace DL
open PySem PySem.Spec PyProof.Rows L2
theorem for_core {K : PySem.W.Frag} {G0 H0 G H W : Hp} {σ : St} {ρ : En} {J : It} {ds : List PyData} {fs : List Nat} {p : Pat} {g : En → Option Out} {D : Ends} {o : Out} (R : Rp K G0 H0 G H σ ρ) (hW : ∀ G2 H2, Ext G H0 G2 H2 → Same W H2) (w : WalkD K J ds W G)
    (e : loopD fs p g ds (DL.fgt fs ρ) = some o) (q : DL.fin K G0 H0 D o) :
    ∃ V : Nat → Nat → St → Hp → Prop, (∃ m, V 0 m σ H) ∧ ∀ i m σ H, V i m σ H →
      (J.stop i H ∧ D.nx σ H) ∨ (J.go i H ∧ ∃ N : St → Hp → Prop, (∀ σ' H', N σ' H' → ∃ m', m' < m ∧ V (i + 1) m' σ' H') ∧ ∀ x H', J.yld i H x H' → gP K p x σ H' fun σ2 H2 => tS K g { D with nx := N, ct := N, bk := D.nx } σ2 H2) := by
  refine ⟨fun i m σ H => i ≤ ds.length ∧ m = ds.length - i ∧ ∃ G' ρ, Rp K G H0 G' H σ ρ ∧ loopD fs p g (ds.drop i) ρ = some o, ⟨_, Nat.zero_le _, rfl, G, _, (R.fgt fs).up, e⟩, ?_⟩
  rintro i m σ2 H2 ⟨hi, rfl, G2, ρ2, R2, e3⟩
  have W2 : Same W H2 := hW _ _ R2.ext
  by_cases hlt : i < ds.length
  · obtain ⟨d, hd, hdr⟩ := drop_cons hlt
    rw [hdr, loopD] at e3
    obtain ⟨ρ3, e4, e5⟩ := Option.bind_eq_some_iff.mp e3
    obtain ⟨o3, e6, e7⟩ := Option.bind_eq_some_iff.mp e5
    refine .inr ⟨w.goes i H2 hlt W2, fun σ' H' => ∃ G' ρ', Rp K G H0 G' H' σ' ρ' ∧ loopD fs p g (ds.drop (i + 1)) ρ' = some o, fun σ' H' ⟨G', ρ', R', e'⟩ => ⟨ds.length - (i + 1), by omega, hlt, rfl, G', ρ', R', e'⟩, fun x H' y => ?_⟩
    obtain ⟨G3, d', x3, hd', r3⟩ := w.yields i G2 H2 x H' hlt W2 R2.ext.gg R2.ext.gh y
    rw [hd] at hd'; cases hd'
    have R3 := R2.grow x3
    refine ⟨G3, ρ2, d, ρ3, R3.rx, r3, e4, fun σ' r k _ => ⟨G, H0, G3, ρ3, o3, R3.kept r k, e6, ?_⟩⟩
    cases o3 with
    | nx ρ4 => exact fun σ4 G4 H4 R4 => ⟨G4, _, R4.fgt fs, e7⟩
    | ct ρ4 => exact fun σ4 G4 H4 R4 => ⟨G4, _, R4.fgt fs, e7⟩
    | bk ρ4 => cases e7; exact fun σ4 G4 H4 R4 => q σ4 G4 H4 ((Rp.down R.ext R4).fgt fs)
    | rt s => cases e7; exact fun v G4 H4 x4 r4 f4 => q v G4 H4 (ext_down R.ext x4) r4 f4
  · have ei : i = ds.length := by omega
    subst ei
    rw [List.drop_length, loopD] at e3
    cases e3
    exact .inl ⟨w.stops H2 W2, q σ2 G2 H2 (Rp.down R.ext R2)⟩
/-- what a loop over the own thing in slot i gives, whatever its address: the slot is the thing again behind it -/
noncomputable def backO (i : Nat) (s : Sl) (L : En → Option Out) : En → Option Out := fun ρ => open Classical in
  if h : ∃ ρ' : En, i < ρ'.length ∧ ∀ a : Addr, L (ρ.set i (some (.q a))) = some (.nx (ρ'.set i (some (.q a)))) then some (.nx (h.choose.set i (some s)))
  else if h : ∃ s' : Sl, ∀ a : Addr, L (ρ.set i (some (.q a))) = some (.rt s') then some (.rt h.choose) else none
theorem backO_nx {i : Nat} {s : Sl} {L : En → Option Out} {ρ ρ' : En} (hl : i < ρ'.length) (h : ∀ a : Addr, L (ρ.set i (some (.q a))) = some (.nx (ρ'.set i (some (.q a))))) : backO i s L ρ = some (.nx (ρ'.set i (some s))) := by
  have hex : ∃ ρ' : En, i < ρ'.length ∧ ∀ a : Addr, L (ρ.set i (some (.q a))) = some (.nx (ρ'.set i (some (.q a)))) := ⟨ρ', hl, h⟩
  unfold backO
  rw [dif_pos hex]
  have h1 := hex.choose_spec.2 0
  rw [h 0] at h1
  have h2 : ρ'.set i (some (.q 0)) = hex.choose.set i (some (.q 0)) := Out.nx.inj (Option.some.inj h1)
  have h3 := congrArg (fun r : En => r.set i (some s)) h2
  simp only [List.set_set] at h3
  rw [h3]
theorem backO_rt {i : Nat} {s s' : Sl} {L : En → Option Out} {ρ : En} (h : ∀ a : Addr, L (ρ.set i (some (.q a))) = some (.rt s')) : backO i s L ρ = some (.rt s') := by
  have hno : ¬ ∃ ρ' : En, i < ρ'.length ∧ ∀ a : Addr, L (ρ.set i (some (.q a))) = some (.nx (ρ'.set i (some (.q a)))) := fun ⟨ρ', _, h'⟩ => by
    have := h' 0
    rw [h 0] at this
    cases this
  have hex : ∃ s' : Sl, ∀ a : Addr, L (ρ.set i (some (.q a))) = some (.rt s') := ⟨s', h⟩
  unfold backO
  rw [dif_neg hno, dif_pos hex]
  have h1 := hex.choose_spec 0
  rw [h 0] at h1
  rw [← Out.rt.inj (Option.some.inj h1)]
theorem backO_cases {i : Nat} {s : Sl} {L : En → Option Out} {ρ : En} {o : Out} (h : backO i s L ρ = some o) :
    (∃ ρ' : En, i < ρ'.length ∧ (∀ a : Addr, L (ρ.set i (some (.q a))) = some (.nx (ρ'.set i (some (.q a))))) ∧ o = .nx (ρ'.set i (some s))) ∨ ∃ s', (∀ a : Addr, L (ρ.set i (some (.q a))) = some (.rt s')) ∧ o = .rt s' := by
  unfold backO at h
  split at h
  · next hex => cases h; exact .inl ⟨_, hex.choose_spec.1, hex.choose_spec.2, rfl⟩
  · split at h
    · next hex => cases h; exact .inr ⟨_, hex.choose_spec, rfl⟩
    · cases h
section
variable {K : PySem.W.Frag} {G0 H0 G H : Hp} {σ : St} {ρ : En} {i : Nat} {a : Addr}
/-- the slot set to what it is -/
theorem st_same {v : V} (R : Rx K G H σ ρ) (h : σ[i]? = some (some v)) : σ.set i (some v) = σ := by
  have hl : i < σ.length := by
    rcases Nat.lt_or_ge i σ.length with z | z
    · exact z
    · rw [List.getElem?_eq_none z] at h; cases h
  refine List.ext_getElem? fun j => ?_
  by_cases hj : j = i
  · subst hj; rw [List.getElem?_set_self hl]; exact h.symm
  · exact st_set_ne hj
/-- the own thing at a stands beside the loop: it is walked -/
theorem rp_out {s : Sl} (o : HO) (R : Rp K G0 H0 G H σ ρ) (hi : ρ[i]? = some (some s)) (ow : s.own = true) (hv : σ[i]? = some (some (.ref a))) (hG : G a = none) :
    Rp K G0 (upd H0 a o) G (upd H a o) σ (ρ.set i (some (.q a))) ∧ H0 a = none ∧ G0 a = none := by
  have h0 := R.own i s a hi ow hv
  have apart : ∀ (j : Nat) (t : Sl) (c : Addr), j ≠ i → ρ[j]? = some (some t) → t.own = true → σ[j]? = some (some (.ref c)) → c ≠ a := fun j t c hne hj ot e z => hne (R.rx.apart j i t s a hj hi ot ow (by rw [e, z]) hv)
  have rx := R.rx.set_any i (v := .ref a) (t := .q a) (.q a) fun z => (nomatch z)
  rw [st_same R.rx hv] at rx
  have sub : Same G (upd H a o) := fun b u z => by rw [upd_ne (fun e => by rw [e, hG] at z; cases z)]; exact R.ext.gh _ _ z
  refine ⟨⟨⟨sub, rx.len, fun j t hj => ?_, rx.apart⟩, ⟨R.ext.gg, fun b u z => ?_, sub, fun b z1 z2 => ?_⟩, fun j t c hj ot e => ?_⟩, h0, R.ext.gg.free hG⟩
  · obtain ⟨w, w1, w2⟩ := rx.at_ j t hj
    refine ⟨w, w1, ?_⟩
    rcases en_set_get hj with ⟨_, _, e2⟩ | ⟨hne, hj⟩
    · cases e2; cases w2; exact .q a
    · cases w2 with
      | p h => exact .p h
      | s h => exact .s h
      | q a => exact .q a
      | l f1 f2 f3 => exact .l f1 (by rw [upd_ne (apart j _ _ hne hj rfl w1)]; exact f2) f3
      | k f1 f2 f3 => exact .k f1 (by rw [upd_ne (apart j _ _ hne hj rfl w1)]; exact f2) f3
  · by_cases hb : b = a
    · subst hb; rw [upd_same] at z ⊢; exact z
    · rw [upd_ne hb] at z ⊢; exact R.ext.hh _ _ z
  · by_cases hb : b = a
    · subst hb; exact hG
    · rw [upd_ne hb] at z1; exact R.ext.hid b z1 z2
  · rcases en_set_get hj with ⟨_, _, e2⟩ | ⟨hne, hj⟩
    · cases e2; cases ot
    · rw [upd_ne (apart j t c hne hj ot e)]; exact R.own j t c hj ot e
/-- and back -/
theorem rp_in {o o' : HO} {s : Sl} (R : Rp K G0 (upd H0 a o) G H σ (ρ.set i (some (.q a)))) (h0 : H0 a = none) (g0 : G0 a = none) (ow : s.own = true) (hl : i < ρ.length)
    (hs : G a = none → DL.SlR K G (upd H a o') (.ref a) s) : Rp K G0 H0 G (upd H a o') σ (ρ.set i (some s)) := by
  have hH : H a = some o := R.ext.hh a o upd_same
  have hG : G a = none := R.ext.hid a (by rw [upd_same]; exact fun z => nomatch z) g0
  have neG : ∀ {b : Addr} {u : HO}, G b = some u → b ≠ a := fun z e => by rw [e, hG] at z; cases z
  have hv : σ[i]? = some (some (.ref a)) := by
    obtain ⟨v, v1, v2⟩ := R.rx.at_ i (.q a) (List.getElem?_set_self hl)
    cases v2; exact v1
  have awy : ∀ (j : Nat) (t : Sl) (c : Addr), (ρ.set i (some (.q a)))[j]? = some (some t) → t.own = true → σ[j]? = some (some (.ref c)) → c ≠ a ∧ H0 c = none := fun j t c hj ot e => by
    have h1 := R.own j t c hj ot e
    have hc : c ≠ a := fun z => by rw [z, upd_same] at h1; cases h1
    exact ⟨hc, by rw [upd_ne hc] at h1; exact h1⟩
  have sub : Same G (upd H a o') := fun b u z => by rw [upd_ne (neG z)]; exact R.ext.gh _ _ z
  have at_ : ∀ j t, j ≠ i → (ρ.set i (some s))[j]? = some (some t) → (ρ.set i (some (.q a)))[j]? = some (some t) := fun j t hne hj => by
    rw [List.getElem?_set_ne (fun z => hne z.symm)] at hj ⊢; exact hj
  refine ⟨⟨sub, by rw [List.length_set]; have := R.rx.len; rwa [List.length_set] at this, fun j t hj => ?_, fun j1 j2 t1 t2 c hj1 hj2 o1 o2 k1 k2 => ?_⟩, ⟨R.ext.gg, fun b u z => ?_, sub, fun b z1 z2 => ?_⟩, fun j t c hj ot e => ?_⟩
  · by_cases hne : j = i
    · subst hne
      rw [List.getElem?_set_self hl] at hj
      cases hj
      exact ⟨_, hv, hs hG⟩
    · have hj' := at_ j t hne hj
      obtain ⟨w, w1, w2⟩ := R.rx.at_ j t hj'
      refine ⟨w, w1, ?_⟩
      cases w2 with
      | p h => exact .p h
      | s h => exact .s h
      | q a => exact .q a
      | l f1 f2 f3 => exact .l f1 (by rw [upd_ne (awy j _ _ hj' rfl w1).1]; exact f2) f3
      | k f1 f2 f3 => exact .k f1 (by rw [upd_ne (awy j _ _ hj' rfl w1).1]; exact f2) f3
  · by_cases h1 : j1 = i
    · by_cases h2 : j2 = i
      · rw [h1, h2]
      · have := (awy j2 t2 c (at_ j2 t2 h2 hj2) o2 k2).1
        rw [h1, hv] at k1; cases k1; exact absurd rfl this
    · have e1 := awy j1 t1 c (at_ j1 t1 h1 hj1) o1 k1
      by_cases h2 : j2 = i
      · rw [h2, hv] at k2; cases k2; exact absurd rfl e1.1
      · exact R.rx.apart j1 j2 t1 t2 c (at_ j1 t1 h1 hj1) (at_ j2 t2 h2 hj2) o1 o2 k1 k2
  · rw [upd_ne (ne_of_none z h0)]
    exact R.ext.hh _ _ (by rw [upd_ne (ne_of_none z h0)]; exact z)
  · exact R.ext.hid b (by rw [upd_ne (fun e => z1 (by rw [e]; exact h0))]; exact z1) z2
  · by_cases hne : j = i
    · rw [hne, hv] at e; cases e; exact h0
    · exact (awy j t c (at_ j t hne hj) ot e).2
end
section
variable {X : Cx} {tg : Expr} {body : List Stmt} {pos : Pos} {fs : List Nat} {p : Pat} {g : En → Option Out}
/-- a walk of the own thing at a, locked meanwhile -/
theorem own_loop {K : PySem.W.Frag} {G0 H0 G H : Hp} {σ : St} {ρ : En} {i : Nat} {a : Addr} {o2 o' : HO} {s : Sl} {J : It} {ds : List PyData} {D : Ends} {out : Out} (R : Rp K G0 H0 G H σ ρ) (hi : ρ[i]? = some (some s)) (ow : s.own = true) (hv : σ[i]? = some (some (.ref a))) (hG : G a = none)
    (hs : ∀ G' H', Same G G' → G' a = none → DL.SlR K G' (upd H' a o') (.ref a) s) (w : ∀ W : Hp, W a = some o2 → WalkD K J ds W G) (e : backO i s (fun ρ => loopD fs p g ds (DL.fgt fs ρ)) ρ = some out) (q : DL.fin K G0 H0 D out) :
    ∃ V : Nat → Nat → St → Hp → Prop, (∃ m, V 0 m σ (upd H a o2)) ∧ ∀ i m σ H, V i m σ H →
      (J.stop i H ∧ (H a = some o2 ∧ D.nx σ (upd H a o'))) ∨ (J.go i H ∧ ∃ N : St → Hp → Prop, (∀ σ' H', N σ' H' → ∃ m', m' < m ∧ V (i + 1) m' σ' H') ∧ ∀ x H', J.yld i H x H' → gP K p x σ H' fun σ2 H2 => tS K g { nx := N, rt := fun v H' => H' a = some o2 ∧ D.rt v (upd H' a o'), bk := fun σ' H' => H' a = some o2 ∧ D.nx σ' (upd H' a o'), ct := N } σ2 H2) := by
  obtain ⟨R1, h0, g0⟩ := rp_out o2 R hi ow hv hG
  have hW : ∀ G2 H2, Ext G (upd H0 a o2) G2 H2 → Same (upd (fun _ => none) a o2) H2 := fun G2 H2 x b u z => by
    by_cases hb : b = a
    · subst hb; rw [upd_same] at z; cases z; exact x.hh _ _ upd_same
    · rw [upd_ne hb] at z; cases z
  rcases backO_cases e with ⟨ρ', hl, hL, rfl⟩ | ⟨s', hL, rfl⟩
  · refine for_core (D := ⟨fun σ' H' => H' a = some o2 ∧ D.nx σ' (upd H' a o'), fun v H' => H' a = some o2 ∧ D.rt v (upd H' a o'), fun σ' H' => H' a = some o2 ∧ D.nx σ' (upd H' a o'), fun σ' H' => H' a = some o2 ∧ D.ct σ' (upd H' a o')⟩) R1.up hW (w _ upd_same) (hL a) fun σ' G' H' R' => ?_
    exact ⟨R'.ext.hh _ _ upd_same, q σ' G' _ (Rp.down R.ext (rp_in R' h0 hG ow hl fun z => hs G' H' R'.ext.gg z))⟩
  · refine for_core (D := ⟨fun σ' H' => H' a = some o2 ∧ D.nx σ' (upd H' a o'), fun v H' => H' a = some o2 ∧ D.rt v (upd H' a o'), fun σ' H' => H' a = some o2 ∧ D.nx σ' (upd H' a o'), fun σ' H' => H' a = some o2 ∧ D.ct σ' (upd H' a o')⟩) R1.up hW (w _ upd_same) (hL a) fun v G' H' x r f => ?_
    have hGa : G' a = none := x.hid a (by rw [upd_same]; exact fun z => nomatch z) hG
    have sub : Same G' (upd H' a o') := fun b u z => by rw [upd_ne (fun e => by rw [e, hGa] at z; cases z)]; exact x.gh _ _ z
    refine ⟨x.hh _ _ upd_same, q v G' _ (ext_down R.ext ⟨x.gg, fun b u z => by rw [upd_ne (ne_of_none z h0)]; exact x.hh _ _ (by rw [upd_ne (ne_of_none z h0)]; exact z), sub, fun b z1 z2 => x.hid b (by rw [upd_ne (fun e => z1 (by rw [e]; exact h0))]; exact z1) z2⟩) ?_ fun z c hc => ?_⟩
    · have ne : ∀ c, v = .ref c → s'.own = true → c ≠ a := fun c hc oc e => by
        have := f oc c hc
        rw [e, upd_same] at this; cases this
      cases r with
      | p h => exact .p h
      | s h => exact .s h
      | q b => exact .q b
      | l f1 f2 f3 => exact .l f1 (by rw [upd_ne (ne _ rfl rfl)]; exact f2) f3
      | k f1 f2 f3 => exact .k f1 (by rw [upd_ne (ne _ rfl rfl)]; exact f2) f3
    · have := f z c hc
      by_cases hca : c = a
      · rw [hca]; exact h0
      · rw [upd_ne hca] at this; exact this

theorem walkd_list' {K : PySem.W.Frag} {G : Hp} {a : Addr} {od : Obj} {xs : List V} {ds : List PyData} {W : Hp} (h : W a = some (.frz od (.lst xs))) (hd : DqAll K G xs ds) : WalkD K (Itl K a) ds W G where
  goes := fun i H hi s => (walk_list (K := K) (a := a) (xs := xs)).goes i H (by rw [hd.len]; exact hi) (.inl (.inr ⟨od, s _ _ h⟩))
  stops := fun H s => by rw [← hd.len]; exact (walk_list (K := K) (a := a) (xs := xs)).stops H (.inl (.inr ⟨od, s _ _ h⟩))
  yields := fun i G' H x H' hi s g1 g2 y => by
    obtain ⟨rfl, e⟩ := (walk_list (K := K) (a := a) (xs := xs)).yields i H x H' (by rw [hd.len]; exact hi) (.inl (.inr ⟨od, s _ _ h⟩)) y
    obtain ⟨d, e1, e2⟩ := hd.get' e
    exact ⟨G', d, .refl g2, e1, e2.mono g1⟩
/-- for x in xs, xs an own list that the body leaves alone -/
noncomputable def gForL (i : Nat) (fs : List Nat) (p : Pat) (g : En → Option Out) : En → Option Out := fun ρ => (ownL i ρ).bind fun ds => backO i (.l ds) (fun ρ => loopD fs p g ds (DL.fgt fs ρ)) ρ
/-- for k in d, d an own dict -/
noncomputable def gForK (i : Nat) (w : Kvs → List PyData) (fs : List Nat) (p : Pat) (g : En → Option Out) : En → Option Out := fun ρ => (ownK i ρ).bind fun ds => backO i (.k ds) (fun ρ => loopD fs p g (w ds) (DL.fgt fs ρ)) ρ
theorem sd_forL (i : Nat) {x : Str} {xp : Pos} (hp : PassesOwn (model X.prog X.w) X.A X.env X.xe) (hc : X.calm = true) (hg : PG X tg (gP X.K p)) (hb : PSSD X body g) (hN : X.N[i]? = some x := by rfl) (hv : Vis X.env.scope x := by first | exact Or.inl rfl | exact Or.inr (Or.inl rfl) | exact Or.inr (Or.inr rfl))
    (hd : (x == ("__debug__" : Str)) = false := by decide) (hcd : (x == ("__classdict__" : Str)) = false := by decide) (hs : ∀ y, foldedSetIterable (.Name x xp) X.env y = pure y := by intro _; rfl) : PSD X (.For tg (.Name x xp) body [] pos) (gForL i fs p g) :=
  ps_con (ps_lock (ps_for hp hc (pi_list (pv_own i hN hv hd hcd)) hg hb hs)) fun D σ H ⟨G0, H0, G, ρ, out, R, e, q⟩ => by
    obtain ⟨ds, e1, e2⟩ := Option.bind_eq_some_iff.mp e
    obtain ⟨h1, a, xs, h2, h3, h4, h5⟩ := ownL_at R e1
    exact ⟨a, .lst xs, h4, trivial, fun od => ⟨_, h2, a, rfl, ⟨xs, .inl (.inr ⟨od, upd_same⟩)⟩, own_loop R h1 rfl h2 h3 (fun G' H' gg z => .l z upd_same (h5.mono gg)) (fun W hw => walkd_list' hw h5) e2 q⟩⟩
theorem sd_forKk (i : Nat) {x : Str} {xp : Pos} (hp : PassesOwn (model X.prog X.w) X.A X.env X.xe) (hc : X.calm = true) (hg : PG X tg (gP X.K p)) (hb : PSSD X body g) (hN : X.N[i]? = some x := by rfl) (hv : Vis X.env.scope x := by first | exact Or.inl rfl | exact Or.inr (Or.inl rfl) | exact Or.inr (Or.inr rfl))
    (hd : (x == ("__debug__" : Str)) = false := by decide) (hcd : (x == ("__classdict__" : Str)) = false := by decide) (hs : ∀ y, foldedSetIterable (.Name x xp) X.env y = pure y := by intro _; rfl) : PSD X (.For tg (.Name x xp) body [] pos) (gForK i (fun ds => ds.map (·.1)) fs p g) :=
  ps_con (ps_lock (ps_for hp hc (pi_keys (pv_own i hN hv hd hcd)) hg hb hs)) fun D σ H ⟨G0, H0, G, ρ, out, R, e, q⟩ => by
    obtain ⟨ds, e1, e2⟩ := Option.bind_eq_some_iff.mp e
    obtain ⟨h1, a, ks, h2, h3, h4, h5⟩ := ownK_at R e1
    exact ⟨a, .dK ks, h4, trivial, fun od => ⟨_, h2, a, od, rfl, .inl ⟨ks, upd_same, own_loop R h1 rfl h2 h3 (fun G' H' gg z => .k z upd_same (h5.mono gg)) (fun W hw => walkd_keys hw h5) e2 q⟩⟩⟩
theorem sd_forKi (i : Nat) {x : Str} {xp apos cpos tpos : Pos} {elts : List Expr} {kk : Nat} (hp : PassesOwn (model X.prog X.w) X.A X.env X.xe) (hc : X.calm = true) (hg : PG X (.Tuple elts kk tpos) (gP X.K p)) (hb : PSSD X body g) (hN : X.N[i]? = some x := by rfl) (hv : Vis X.env.scope x := by first | exact Or.inl rfl | exact Or.inr (Or.inl rfl) | exact Or.inr (Or.inr rfl))
    (hd : (x == ("__debug__" : Str)) = false := by decide) (hcd : (x == ("__classdict__" : Str)) = false := by decide) (hbase : attributeBase (.Name x xp) "items" X.env (eval (.Name x xp) X.env) = eval (.Name x xp) X.env := by rfl) (hline : (apos.endLine == cpos.line) = true := by rfl)
    (hs : ∀ y, foldedSetIterable (.Call (.Attribute (.Name x xp) "items" apos) [] [] cpos) X.env y = pure y := by intro _; rfl) : PSD X (.For (.Tuple elts kk tpos) (.Call (.Attribute (.Name x xp) "items" apos) [] [] cpos) body [] pos) (gForK i itemL fs p g) :=
  ps_con (ps_lock (ps_for hp hc (pi_items (pv_own i hN hv hd hcd) hbase hline) hg hb hs)) fun D σ H ⟨G0, H0, G, ρ, out, R, e, q⟩ => by
    obtain ⟨ds, e1, e2⟩ := Option.bind_eq_some_iff.mp e
    obtain ⟨h1, a, ks, h2, h3, h4, h5⟩ := ownK_at R e1
    exact ⟨a, .dK ks, h4, trivial, fun od => ⟨_, h2, a, od, ks, rfl, upd_same, own_loop R h1 rfl h2 h3 (fun G' H' gg z => .k z upd_same (h5.mono gg)) (fun W hw => walkd_items hw h5) e2 q⟩⟩
/-! ### x = y, y an own thing that goes over to x -/
def gMove (i j : Nat) : En → Option Out := fun ρ => match ρ[j]? with
  | some (some s) => if s.own then some (.nx ((ρ.set j none).set i (some s))) else none
  | _ => none
theorem sd_move (i j : Nat) {x y : Str} {px py : Pos} (hN : X.N.Nodup) (hi : X.N[i]? = some x) (hx : Loc X.env.scope x) (hNj : X.N[j]? = some y := by rfl) (hv : Vis X.env.scope y := by first | exact Or.inl rfl | exact Or.inr (Or.inl rfl) | exact Or.inr (Or.inr rfl))
    (hd : (y == ("__debug__" : Str)) = false := by decide) (hcd : (y == ("__classdict__" : Str)) = false := by decide) (hs : swapsWith (.Name y py) (some (.Name x px)) pos.line X.env = pure false := by rfl)
    (hf : X.fn x = true ∨ X.env.scope.names.lookup x = some .local := by first | exact .inl rfl | exact .inr rfl) : PSD X (.Assign [.Name x px] (.Name y py) pos) (gMove i j) :=
  ps_con (ps_set hN hi hx (pv_own j hNj hv hd hcd) hs hf) fun D σ H ⟨G0, H0, G, ρ, out, R, e, q⟩ => by
    unfold gMove at e
    split at e
    · next s hj =>
      split at e
      · next ow =>
        cases e
        obtain ⟨v, v1, v2⟩ := R.rx.at_ j s hj
        refine ⟨v, v1, q _ G H ?_⟩
        have away : ∀ (l : Nat) (t : Sl) (c : Addr), (ρ.set j none)[l]? = some (some t) → t.own = true → σ[l]? = some (some (.ref c)) → v = .ref c → False := fun l t c hl ot e ev => by
          by_cases hlj : l = j
          · subst hlj
            rw [List.getElem?_set] at hl
            split at hl
            · split at hl <;> cases hl
            · next z => exact z rfl
          · rw [List.getElem?_set_ne (fun z => hlj z.symm)] at hl
            exact hlj (R.rx.apart l j t s c hl hj ot ow e (by rw [v1, ev]))
        have R1 : Rp X.K G0 H0 G H σ (ρ.set j none) := R.weak (by rw [List.length_set]) fun l t hl => by
          rw [List.getElem?_set] at hl
          split at hl
          · split at hl <;> cases hl
          · exact hl
        refine ⟨R1.rx.set_any i v2 fun _ c ec l t hne hl ot hs => away l t c hl ot hs ec, R1.ext, fun l t c hl ot e => ?_⟩
        rcases en_set_get hl with ⟨e1, hlt, e2⟩ | ⟨hne, hl⟩
        · cases e2; subst e1
          rw [List.getElem?_set_self (by rw [R1.rx.len]; exact hlt)] at e
          cases e
          exact R.own j s c hj ow v1
        · rw [st_set_ne hne] at e
          exact R1.own l t c hl ot e
      · cases e
    · cases e
end
end DL

set_option Elab.async false
set_option linter.all false
set_option maxRecDepth 100000
/-! The plain layer, 1: reckoning. -/
namespace DL
open PySem

/-! ### expressions, read -/
section
variable {ρ : En} {α β : Type}
@[simp] theorem ev_C (d : PyData) : fC d ρ = some d := rfl
@[simp] theorem ev_V (i : Nat) : fV i ρ = match ρ[i]? with | some (some (.p d)) => some d | _ => none := rfl
@[simp] theorem ev_VT (i : Nat) : fVT i ρ = match ρ[i]? with | some (some s) => s.d | _ => none := rfl
@[simp] theorem ev_1 (g : α → Option β) (fa : En → Option α) : f1 g fa ρ = (fa ρ).bind g := rfl
@[simp] theorem ev_2 (g : PyData → PyData → Option α) (fa fb : En → Option PyData) : f2 g fa fb ρ = (fa ρ).bind fun x => (fb ρ).bind fun y => g x y := rfl
@[simp] theorem ev_frz (f : En → Option Sl) : frz f ρ = (f ρ).bind Sl.d := rfl
@[simp] theorem sl_p (d : PyData) : (Sl.p d).d = some d := rfl
@[simp] theorem sl_l (d : List PyData) : (Sl.l d).d = some (.list d) := rfl
@[simp] theorem sl_k (d : List (PyData × PyData)) : (Sl.k d).d = some (.dict d) := rfl
@[simp] theorem ev_nil : fNil ρ = some [] := rfl
@[simp] theorem ev_cons (fa : En → Option PyData) (fr : En → Option (List PyData)) : fCons fa fr ρ = (fa ρ).bind fun x => (fr ρ).map (x :: ·) := rfl
@[simp] theorem ev_star (fa : En → Option PyData) (fr : En → Option (List PyData)) : fStar fa fr ρ = (fa ρ).bind fun x => (itemsD x).bind fun xs => (fr ρ).map (xs ++ ·) := rfl
@[simp] theorem ev_if (ba : En → Option Bool) (fa fb : En → Option α) : fIf ba fa fb ρ = (ba ρ).bind fun c => if c then fa ρ else fb ρ := rfl
@[simp] theorem ev_and (ba bb : En → Option Bool) : fAnd ba bb ρ = (ba ρ).bind fun c => if c then bb ρ else some false := rfl
@[simp] theorem ev_or (ba bb : En → Option Bool) : fOr ba bb ρ = (ba ρ).bind fun c => if c then some true else bb ρ := rfl
@[simp] theorem ev_not (ba : En → Option Bool) : fNotB ba ρ = (ba ρ).map (!·) := rfl
@[simp] theorem ev_chain (g g' : PyData → PyData → Option PyData) (fa fb fc : En → Option PyData) : fChain g g' fa fb fc ρ = (fa ρ).bind fun x => (fb ρ).bind fun y => (g x y).bind fun z => match z with
  | .bool true => (fc ρ).bind fun w => g' y w
  | .bool false => some (.bool false)
  | _ => none := rfl
@[simp] theorem ev_andV (fa fb : En → Option PyData) : fAndV fa fb ρ = (fa ρ).bind fun x => match x with
  | .bool true => fb ρ
  | .bool false => some (.bool false)
  | _ => none := rfl
@[simp] theorem ev_orV (fa fb : En → Option PyData) : fOrV fa fb ρ = (fa ρ).bind fun x => match x with
  | .bool true => some (.bool true)
  | .bool false => fb ρ
  | _ => none := rfl
@[simp] theorem ev_lc (vs : List Nat) (fi : En → Option (List PyData)) (p : Pat) (ft : En → Option Bool) (fe : En → Option PyData) : fLc vs fi p ft fe ρ = (fi ρ).bind fun ds => (compD p ft fe (DL.fgt vs ρ) ds).map .l := rfl
@[simp] theorem ev_yes : fYes ρ = some true := rfl
@[simp] theorem ev_no : fNo ρ = some none := rfl
@[simp] theorem ev_sl (fa : En → Option PyData) (fl fh : En → Option (Option Int)) : fSl fa fl fh ρ = (fa ρ).bind fun x => (fl ρ).bind fun lo => (fh ρ).bind fun hi => slS x lo hi := rfl
@[simp] theorem ev_get2 (fa fb fc : En → Option PyData) : getD2 fa fb fc ρ = (fa ρ).bind fun x => (kvOf x).bind fun ds => (fb ρ).bind fun k => (keyK k).bind fun k => (fc ρ).map fun z => (lookK ds k).getD z := rfl

/-! ### statements, read -/
@[simp] theorem st_seq (g1 g2 : En → Option Out) : gSeq g1 g2 ρ = (g1 ρ).bind fun o => andThen o g2 := rfl
@[simp] theorem then_nx (g : En → Option Out) : andThen (.nx ρ) g = g ρ := rfl
@[simp] theorem then_rt (g : En → Option Out) (s : Sl) : andThen (.rt s) g = some (.rt s) := rfl
@[simp] theorem then_bk (g : En → Option Out) : andThen (.bk ρ) g = some (.bk ρ) := rfl
@[simp] theorem then_ct (g : En → Option Out) : andThen (.ct ρ) g = some (.ct ρ) := rfl
@[simp] theorem st_next : gNext ρ = some (.nx ρ) := rfl
@[simp] theorem st_if (ba : En → Option Bool) (g1 g2 : En → Option Out) : gIf ba g1 g2 ρ = (ba ρ).bind fun c => if c then g1 ρ else g2 ρ := rfl
@[simp] theorem st_set (i : Nat) (fa : En → Option PyData) : gSet i fa ρ = (fa ρ).map fun d => .nx (ρ.set i (some (.p d))) := rfl
@[simp] theorem st_setF (i : Nat) (f : En → Option Sl) : gSetF i f ρ = (f ρ).map fun s => .nx (ρ.set i (some s)) := rfl
@[simp] theorem st_setL (i : Nat) (f : En → Option Sl) : gSetL i f ρ = (f ρ).bind fun s => match s with
  | .l ds => some (.nx (ρ.set i (some (.p (.list ds)))))
  | _ => none := rfl
@[simp] theorem st_pat (p : Pat) (fa : En → Option PyData) : gPat p fa ρ = (fa ρ).bind fun d => (pm p d ρ).map .nx := rfl
@[simp] theorem st_par (i j : Nat) (fa fb : En → Option PyData) : gPar i j fa fb ρ = (fa ρ).bind fun x => (fb ρ).map fun y => .nx ((ρ.set i (some (.p x))).set j (some (.p y))) := rfl
@[simp] theorem st_ret (f : En → Option PyData) : gRet f ρ = (f ρ).map fun d => .rt (.p d) := rfl
@[simp] theorem st_retF (f : En → Option Sl) : gRetF f ρ = (f ρ).map .rt := rfl
@[simp] theorem st_retV (i : Nat) : gRetV i ρ = match ρ[i]? with | some (some s) => some (.rt s) | _ => none := rfl
@[simp] theorem st_expr (f : En → Option PyData) : gExpr f ρ = (f ρ).map fun _ => .nx ρ := rfl
@[simp] theorem st_rel (i : Nat) (g : En → Option Out) : gRel i g ρ = (relE i ρ).bind g := rfl
@[simp] theorem st_for (fs : List Nat) (fi : En → Option (List PyData)) (p : Pat) (gb : En → Option Out) : gFor fs fi p gb ρ = (fi ρ).bind fun ds => loopD fs p gb ds (DL.fgt fs ρ) := rfl
@[simp] theorem st_op1 (i : Nat) (u : List PyData → PyData → Option (List PyData)) (fa : En → Option PyData) : gOp1 i u fa ρ = (ownL i ρ).bind fun ds => (fa ρ).bind fun d => (u ds d).map fun ds' => .nx (ρ.set i (some (.l ds'))) := rfl
@[simp] theorem st_put (i : Nat) (fb fa : En → Option PyData) : gPut i fb fa ρ = (fa ρ).bind fun d => (ownK i ρ).bind fun ds => (fb ρ).bind fun k => (keyK k).bind fun k => if ds.length < most then some (.nx (ρ.set i (some (.k (putD ds k d))))) else none := rfl
@[simp] theorem st_clear (i : Nat) : gClear i ρ = (ownK i ρ).map fun _ => .nx (ρ.set i (some (.k []))) := rfl
end
@[simp] theorem fgt_nil (ρ : En) : DL.fgt [] ρ = ρ := rfl
@[simp] theorem fgt_cons (i : Nat) (fs : List Nat) (ρ : En) : DL.fgt (i :: fs) ρ = DL.fgt fs (ρ.set i none) := rfl
@[simp] theorem pm_n (i : Nat) (d : PyData) (ρ : En) : pm (.n i) d ρ = some (ρ.set i (some (.p d))) := by simp [pm]
@[simp] theorem pm_t (ps : List Pat) (ds : List PyData) (ρ : En) : pm (.t ps) (.tuple ds) ρ = pms ps ds ρ := by simp [pm]
@[simp] theorem pms_nil (ρ : En) : pms [] [] ρ = some ρ := by simp [pms]
@[simp] theorem pms_cons (p : Pat) (ps : List Pat) (d : PyData) (ds : List PyData) (ρ : En) : pms (p :: ps) (d :: ds) ρ = (pm p d ρ).bind fun ρ1 => pms ps ds ρ1 := by simp [pms]
theorem run_of {n np : Nat} {g : En → Option Out} {ds : List PyData} {s : Sl} (hl : ds.length = np) (h : (g (enStart n ds)).bind endD = some s) : runD n np g ds = some s := by unfold runD; rw [if_pos hl]; exact h

/-! ### data, read -/
@[simp] theorem d_add (i j : Int) : addS (.int i) (.int j) = some (.p (.int (i + j))) := rfl
@[simp] theorem d_sub (i j : Int) : subD (.int i) (.int j) = some (.int (i - j)) := rfl
@[simp] theorem d_neg (i : Int) : negD (.int i) = some (.int (-i)) := rfl
@[simp] theorem d_abs (i : Int) : absD (.int i) = some (.int (i.natAbs : Int)) := by
  show some (PyData.int (if i < 0 then -i else i)) = _
  congr 2
  split <;> omega
@[simp] theorem d_lt (i j : Int) : ltD (.int i) (.int j) = some (.bool (decide (i < j))) := rfl
@[simp] theorem d_le (i j : Int) : leD (.int i) (.int j) = some (.bool (decide (i ≤ j))) := rfl
@[simp] theorem d_gt (i j : Int) : gtD (.int i) (.int j) = some (.bool (decide (j < i))) := rfl
@[simp] theorem d_ge (i j : Int) : geD (.int i) (.int j) = some (.bool (decide (j ≤ i))) := rfl
@[simp] theorem d_int (i : Int) : intD (.int i) = some (.int i) := rfl
@[simp] theorem d_lenL (xs : List PyData) : lenD (.list xs) = some (.int xs.length) := rfl
@[simp] theorem d_lenT (xs : List PyData) : lenD (.tuple xs) = some (.int xs.length) := rfl
@[simp] theorem d_bo (b : Bool) : bo (.bool b) = some b := rfl
@[simp] theorem d_itemsL (xs : List PyData) : itemsD (.list xs) = some xs := rfl
@[simp] theorem d_itemsT (xs : List PyData) : itemsD (.tuple xs) = some xs := rfl
@[simp] theorem d_kv (ks : Kvs) : kvOf (.dict ks) = some ks := rfl
@[simp] theorem d_keyI (i : Int) : keyK (.int i) = some (.inl i) := rfl
@[simp] theorem d_ixL (xs : List PyData) (i : Int) : ixD (.list xs) (.int i) = L2.atI xs i := rfl
@[simp] theorem d_ixT (xs : List PyData) (i : Int) : ixD (.tuple xs) (.int i) = L2.atI xs i := rfl
@[simp] theorem d_min2 (i j : Int) : minD2 (.int i) (.int j) = some (.int (min i j)) := by
  show some (PyData.int (if j < i then j else i)) = _
  congr 2
  split <;> omega
@[simp] theorem d_max2 (i j : Int) : maxD2 (.int i) (.int j) = some (.int (max i j)) := by
  show some (PyData.int (if j > i then j else i)) = _
  congr 2
  split <;> omega
@[simp] theorem d_gcd (i j : Int) : gcdD (.int i) (.int j) = some (.int (Int.gcd i j : Nat)) := rfl
@[simp] theorem most_is : most = 1000000 := rfl
theorem d_mul {i j : Int} (h : i.natAbs.log2 + j.natAbs.log2 < 1000000) : mulS (.int i) (.int j) = some (.p (.int (i * j))) := by
  show (if mulOk i j = true then _ else _) = _
  rw [if_pos (by unfold mulOk; exact decide_eq_true h)]
theorem d_div {i j : Int} (h : 0 < j) (h2 : j.natAbs.log2 < 9000) : divD (.int i) (.int j) = some (.int (i / j)) := by
  show (if 0 < j then _ else _) = _
  rw [if_pos h, if_pos h2]
theorem d_mod {i j : Int} (h : 0 < j) : modD (.int i) (.int j) = some (.int (i % j)) := by
  show (if 0 < j then _ else _) = _
  rw [if_pos h]
theorem d_tup {ds : List PyData} (h : ds.length ≤ 1000000) : tupD ds = some (.tuple ds) := if_pos h
theorem d_lst {ds : List PyData} (h : ds.length ≤ 1000000) : lstS ds = some (.l ds) := if_pos h
theorem d_app {ds : List PyData} {d : PyData} (h : ds.length < 1000000) : appU ds d = some (ds ++ [d]) := if_pos h

/-! ### loops -/
/-- one turn that goes on -/
def turn (fs : List Nat) (p : Pat) (gb : En → Option Out) (d : PyData) (ρ : En) : Option En := (pm p d ρ).bind fun ρ1 => (gb ρ1).bind fun o => match o with
  | .nx ρ2 => some (DL.fgt fs ρ2)
  | .ct ρ2 => some (DL.fgt fs ρ2)
  | _ => none
theorem loop_turn {fs : List Nat} {p : Pat} {gb : En → Option Out} {d : PyData} {r : List PyData} {ρ ρ' : En} (h : turn fs p gb d ρ = some ρ') : loopD fs p gb (d :: r) ρ = loopD fs p gb r ρ' := by
  unfold turn at h
  obtain ⟨ρ1, e1, h⟩ := Option.bind_eq_some_iff.mp h
  obtain ⟨o, e2, h⟩ := Option.bind_eq_some_iff.mp h
  rw [loopD, e1]
  show (gb ρ1).bind _ = _
  rw [e2]
  cases o with
  | nx ρ2 => cases h; rfl
  | ct ρ2 => cases h; rfl
  | bk ρ2 => cases h
  | rt s => cases h
/-- a for whose turns all go on: E t the slots, I what holds of what has been walked and of t -/
theorem loop_st {α τ : Type} {fs : List Nat} {p : Pat} {gb : En → Option Out} (enc : α → PyData) (E : τ → En) (I : List α → τ → Prop) (xs : List α) (t : τ) (h0 : I [] t)
    (hs : ∀ (pre : List α) (x : α) (post : List α) (t : τ), xs = pre ++ x :: post → I pre t → ∃ t', turn fs p gb (enc x) (E t) = some (E t') ∧ I (pre ++ [x]) t') :
    ∃ t', loopD fs p gb (xs.map enc) (E t) = some (.nx (E t')) ∧ I xs t' := by
  have key : ∀ (ys done : List α) (t : τ), xs = done ++ ys → I done t → ∃ t', loopD fs p gb (ys.map enc) (E t) = some (.nx (E t')) ∧ I xs t' := by
    intro ys
    induction ys with
    | nil => intro done t e h; exact ⟨t, rfl, by rw [e]; simpa using h⟩
    | cons y ys ih =>
      intro done t e h
      obtain ⟨t1, e1, h1⟩ := hs done y ys t e h
      obtain ⟨t2, e2, h2⟩ := ih (done ++ [y]) t1 (by rw [e]; simp) h1
      exact ⟨t2, by rw [List.map_cons, loop_turn e1]; exact e2, h2⟩
  exact key xs [] t (by simp) h0
/-- the same, the slots told by what has been walked -/
theorem loop_fn {α : Type} {fs : List Nat} {p : Pat} {gb : En → Option Out} (enc : α → PyData) (E : List α → En) (xs : List α)
    (hs : ∀ (pre : List α) (x : α) (post : List α), xs = pre ++ x :: post → turn fs p gb (enc x) (E pre) = some (E (pre ++ [x]))) :
    loopD fs p gb (xs.map enc) (E []) = some (.nx (E xs)) := by
  obtain ⟨t', e, h⟩ := loop_st (fs := fs) (p := p) (gb := gb) enc E (fun pre t => t = pre) xs [] rfl fun pre x post t e h => by
    subst h
    exact ⟨_, hs t x post e, rfl⟩
  rw [e, h]
theorem mem_mid {α : Type} {xs pre post : List α} {x : α} (e : xs = pre ++ x :: post) : x ∈ xs := by rw [e]; simp
theorem pre_lt {α : Type} {xs pre post : List α} {x : α} (e : xs = pre ++ x :: post) : pre.length < xs.length := by rw [e]; simp
/-- a comprehension -/
theorem comp_map {α : Type} {p : Pat} {ft : En → Option Bool} {fe : En → Option PyData} {ρ : En} (enc : α → PyData) (g : α → PyData) : ∀ (xs : List α),
    (∀ x ∈ xs, ∃ ρ1, pm p (enc x) ρ = some ρ1 ∧ ft ρ1 = some true ∧ fe ρ1 = some (g x)) → compD p ft fe ρ (xs.map enc) = some (xs.map g)
  | [], _ => rfl
  | x :: xs, h => by
    obtain ⟨ρ1, e1, e2, e3⟩ := h x List.mem_cons_self
    have ih := comp_map enc g xs fun y hy => h y (List.mem_cons_of_mem _ hy)
    rw [List.map_cons, compD, e1]
    simp [e2, e3, ih]
theorem comp_filter {α : Type} {p : Pat} {ft : En → Option Bool} {fe : En → Option PyData} {ρ : En} (enc : α → PyData) (q : α → Bool) (g : α → PyData) : ∀ (xs : List α),
    (∀ x ∈ xs, ∃ ρ1, pm p (enc x) ρ = some ρ1 ∧ ft ρ1 = some (q x) ∧ (q x = true → fe ρ1 = some (g x))) → compD p ft fe ρ (xs.map enc) = some ((xs.filter q).map g)
  | [], _ => rfl
  | x :: xs, h => by
    obtain ⟨ρ1, e1, e2, e3⟩ := h x List.mem_cons_self
    have ih := comp_filter enc q g xs fun y hy => h y (List.mem_cons_of_mem _ hy)
    rw [List.map_cons, compD, e1]
    cases hq : q x with
    | false => simp [e2, hq, ih]
    | true => simp [e2, hq, e3 hq, ih]
end DL

set_option Elab.async false
set_option linter.all false
set_option maxRecDepth 100000
/-! The plain layer, 2: the draws that all laws make. -/
namespace DL
open PySem
/-- _law_mix -/
def gMix : En → Option Out := (gSeq (gSet 3 (fC (.int 0)))
    (gSeq (gIf (f1 bo (f2 gtD (f1 lenD (fV 0)) (fC (.int 0)))) (gSet 3 (f2 ixD (fV 0) (f2 modD (f1 intD (fV 1)) (f1 lenD (fV 0)))))
    gNext)
    (gSeq (gIf (f1 bo (f2 ltD (fV 1) (f1 lenD (fV 0)))) (gRet (f2 modD (f1 intD (fV 3)) (fV 2)))
    gNext)
    (gRet (f2 modD (f1 intD (f2 divD (f1 intD (frz (f2 addS (frz (f2 mulS (fV 3) (fC (.int 7919)))) (frz (f2 mulS (fV 1) (fC (.int 104729))))))) (fC (.int 3)))) (fV 2))))))
abbrev encI (ns : List Int) : PyData := .list (ns.map .int)
def cellT (ds : List Int) (k : Int) : Int := if 0 < ds.length then ds.getD (k % ds.length).toNat 0 else 0
def mixT (ds : List Int) (k many : Int) : Int := if k < ds.length then cellT ds k % many else (cellT ds k * 7919 + k * 104729) / 3 % many
theorem mixT_pos (ds : List Int) (k : Int) {many : Int} (h : 0 < many) : 0 ≤ mixT ds k many ∧ mixT ds k many < many := by
  unfold mixT
  split
  · exact ⟨Int.emod_nonneg _ (by omega), Int.emod_lt_of_pos _ h⟩
  · exact ⟨Int.emod_nonneg _ (by omega), Int.emod_lt_of_pos _ h⟩
/-- the draws: numbers below 65536 -/
def Drawn (ds : List Int) : Prop := ∀ x ∈ ds, 0 ≤ x ∧ x < 65536
theorem log2_lt {n k : Nat} (h : n < 2 ^ k) (hk : 0 < k) : n.log2 < k := by
  rcases Nat.eq_zero_or_pos n with h0 | h0
  · subst h0; simpa using hk
  · exact (Nat.log2_lt (by omega)).2 h
theorem log2_int {i : Int} {k : Nat} (h : i.natAbs < 2 ^ k) (hk : 0 < k) : i.natAbs.log2 < k := log2_lt h hk
theorem log2_le {n k : Nat} (h : n < 2 ^ k) : n.log2 ≤ k := by
  rcases Nat.eq_zero_or_pos k with h0 | h0
  · subst h0
    have : n = 0 := by simpa using h
    subst this
    decide +kernel
  · exact Nat.le_of_lt (log2_lt h h0)
/-- a product of numbers of so many bits -/
theorem d_mulB {i j : Int} {a b : Nat} (hi : i.natAbs < 2 ^ a) (hj : j.natAbs < 2 ^ b) (h : a + b < 1000000) : mulS (.int i) (.int j) = some (.p (.int (i * j))) := d_mul (by
  have h1 := log2_le hi
  have h2 := log2_le hj
  omega)
theorem cellT_at {ds : List Int} {k : Int} (h : 0 < ds.length) : L2.atI (ds.map PyData.int) (k % ds.length) = some (.int (cellT ds k)) := by
  have h0 : 0 ≤ k % (ds.length : Int) := Int.emod_nonneg _ (by omega)
  have h1 : k % (ds.length : Int) < ds.length := Int.emod_lt_of_pos _ (by omega)
  unfold L2.atI L2.ixN cellT
  rw [if_pos h0, List.length_map, if_pos h1, if_pos h]
  have h2 : (k % (ds.length : Int)).toNat < ds.length := by omega
  simp [List.getElem?_map, List.getD_eq_getElem?_getD, h2]
theorem cellT_lt {ds : List Int} (hd : Drawn ds) (k : Int) : 0 ≤ cellT ds k ∧ cellT ds k < 65536 := by
  unfold cellT
  split
  · next h =>
    rw [List.getD_eq_getElem?_getD]
    cases e : ds[(k % (ds.length : Int)).toNat]? with
    | none => simp
    | some x => exact hd x (List.mem_of_getElem? e)
  · omega
theorem mix_is {ds : List Int} (hd : Drawn ds) {k many : Int} (h0 : 0 ≤ k) (h1 : k < 2 ^ 64) (hm : 0 < many) : runD 4 3 gMix [encI ds, .int k, .int many] = some (.p (.int (mixT ds k many))) := by
  obtain ⟨c0, c1⟩ := cellT_lt hd k
  have hc : (cellT ds k).natAbs < 2 ^ 16 := by omega
  have hk : k.natAbs < 2 ^ 64 := by omega
  have m1 : mulS (.int (cellT ds k)) (.int 7919) = some (.p (.int (cellT ds k * 7919))) := d_mulB hc (b := 13) (by decide +kernel) (by decide)
  have m2 : mulS (.int k) (.int 104729) = some (.p (.int (k * 104729))) := d_mulB hk (b := 17) (by decide +kernel) (by decide)
  have dv : ∀ x : Int, divD (.int x) (.int 3) = some (.int (x / 3)) := fun x => d_div (by omega) (by decide +kernel)
  have md : ∀ x : Int, modD (.int x) (.int many) = some (.int (x % many)) := fun x => d_mod hm
  refine run_of rfl ?_
  by_cases hl : 0 < ds.length
  · have e1 : (0 : Int) < ds.length := by omega
    have md2 : modD (.int k) (.int (ds.length : Int)) = some (.int (k % ds.length)) := d_mod e1
    by_cases hk2 : k < ds.length
    · simp [gMix, enStart, e1, hl, md, md2, cellT_at hl, hk2, endD, mixT]
    · simp [gMix, enStart, e1, hl, md, md2, cellT_at hl, hk2, endD, mixT, m1, m2, dv]
  · have e0 : ds = [] := List.length_eq_zero_iff.mp (by omega)
    subst e0
    have hk2 : ¬ k < 0 := by omega
    have hc0 : cellT [] k = 0 := rfl
    rw [hc0] at m1
    simp [gMix, enStart, md, hk2, endD, mixT, hc0, m1, m2, dv]
/-- _law_draws -/
def gDraws1 : En → Option Out := (gIf (f1 bo (f2 gtD (fV 3) (fC (.int 0)))) (gSeq (gOp1 1 appU (f2 modD (f1 intD (fV 3)) (fC (.int 65536))))
    (gSet 3 (f2 divD (fV 3) (fC (.int 65536)))))
    gNext)
def gDraws2 : En → Option Out := (gSeq (gSet 3 (f1 absD (fun ρ => (scrOf 0 ρ).bind fun ns => ((fV 2) ρ).bind fun k => match k with | .int k => (L2.atI ns k).map .int | _ => none)))
    (gIf (f1 bo (f2 geD (fV 3) (f2 powD (fC (.int 10)) (fC (.int 18))))) (gFor [4] (f1 range1D (fC (.int 60))) (.n 4) gDraws1)
    (gSeq (gSet 5 (f2 modD (f1 intD (frz (f2 addS (frz (f2 mulS (fV 3) (fC (.int 48271)))) (frz (f2 mulS (frz (f2 addS (fV 2) (fC (.int 1)))) (fC (.int 69621))))))) (fC (.int 2147483647))))
    (gSeq (gSet 5 (f2 modD (f1 intD (frz (f2 addS (frz (f2 addS (frz (f2 mulS (fV 5) (fC (.int 16807)))) (frz (f2 mulS (fC (.int 11)) (fV 2))))) (fC (.int 5))))) (fC (.int 2147483629))))
    (gSeq (gOp1 1 appU (f2 modD (f1 intD (fV 5)) (fC (.int 65536))))
    (gOp1 1 appU (f2 modD (f1 intD (f2 divD (fV 5) (fC (.int 65536)))) (fC (.int 32768)))))))))
def gDraws : En → Option Out := (gSeq (gSetF 1 (f1 lstS fNil))
    (gSeq (gFor [2, 3, 4, 5] (f1 range1D (f2 minD2 (fC (.int 63)) (fun ρ => (scrOf 0 ρ).map fun ns => .int ns.length))) (.n 2) gDraws2)
    (gRetV 1)))
theorem d_range1 {n : Nat} (h : n ≤ 1000000) : range1D (.int n) = some ((List.range n).map fun i => PyData.int (0 + (i : Nat))) := by
  show (if -1000000 ≤ (n : Int) ∧ (n : Int) ≤ 1000000 then some (rangeL 0 (n : Int).toNat) else none) = _
  rw [if_pos (by omega)]
  rfl
theorem drawn_app {ds : List Int} (h : Drawn ds) {x : Int} (h0 : 0 ≤ x) (h1 : x < 65536) : Drawn (ds ++ [x]) := fun y hy => by
  rcases List.mem_append.mp hy with hy | hy
  · exact h y hy
  · rw [List.mem_singleton.mp hy]; exact ⟨h0, h1⟩
theorem draws_digits (ns : List Int) {ds : List Int} (hd : Drawn ds) (hl : ds.length ≤ 5000) (k : PyData) {rest : Int} (h0 : 0 ≤ rest) :
    ∃ t : List Int × Int, Drawn t.1 ∧ t.1.length ≤ ds.length + 60 ∧ loopD [4] (.n 4) gDraws1 ((List.range 60).map fun i => PyData.int (0 + (i : Nat))) [some (.s ns), some (.l (ds.map PyData.int)), some (.p k), some (.p (.int rest)), none, none] =
      some (.nx [some (.s ns), some (.l (t.1.map PyData.int)), some (.p k), some (.p (.int t.2)), none, none]) := by
  obtain ⟨t, e, h1, h2, h3⟩ := loop_st (fs := [4]) (p := .n 4) (gb := gDraws1) (fun i : Nat => PyData.int (0 + (i : Nat))) (fun t : List Int × Int => [some (.s ns), some (.l (t.1.map PyData.int)), some (.p k), some (.p (.int t.2)), none, none])
    (fun pre t => Drawn t.1 ∧ t.1.length ≤ ds.length + pre.length ∧ 0 ≤ t.2) (List.range 60) (ds, rest) ⟨hd, by simp, h0⟩ fun pre x post t e ⟨g1, g2, g3⟩ => by
      have hp : pre.length < 60 := by simpa using pre_lt e
      have md : modD (.int t.2) (.int 65536) = some (.int (t.2 % 65536)) := d_mod (by omega)
      have dv : divD (.int t.2) (.int 65536) = some (.int (t.2 / 65536)) := d_div (by omega) (by decide +kernel)
      have ap : appU (t.1.map PyData.int) (.int (t.2 % 65536)) = some (t.1.map PyData.int ++ [.int (t.2 % 65536)]) := d_app (by rw [List.length_map]; omega)
      by_cases hr : 0 < t.2
      · exact ⟨(t.1 ++ [t.2 % 65536], t.2 / 65536), by simp [turn, gDraws1, hr, md, dv, ap, ownL], drawn_app g1 (by omega) (by omega), by simp; omega, by show 0 ≤ t.2 / 65536; omega⟩
      · exact ⟨t, by simp [turn, gDraws1, hr], g1, by simp; omega, g3⟩
  exact ⟨t, h1, by simpa using h2, e⟩
theorem draws_is (ns : List Int) : ∃ ds, Drawn ds ∧ ds.length ≤ 3780 ∧ runS 6 gDraws ns = some (.l (ds.map PyData.int)) := by
  obtain ⟨m, m1, m2, m3⟩ : ∃ m : Nat, m ≤ 63 ∧ m ≤ ns.length ∧ min (63 : Int) ns.length = m := ⟨min 63 ns.length, by omega, by omega, by omega⟩
  obtain ⟨ds, e, h1, h2⟩ := loop_st (fs := [2, 3, 4, 5]) (p := .n 2) (gb := gDraws2) (fun i : Nat => PyData.int (0 + (i : Nat))) (fun ds : List Int => [some (.s ns), some (.l (ds.map PyData.int)), none, none, none, none])
    (fun pre ds => Drawn ds ∧ ds.length ≤ 60 * pre.length) (List.range m) [] ⟨fun _ h => (nomatch h), by simp⟩ fun pre x post ds e ⟨g1, g2⟩ => by
      have hp : pre.length < m := by simpa using pre_lt e
      have hx : x < m := by simpa using mem_mid e
      obtain ⟨z, hz⟩ : ∃ z, ns[x]? = some z := ⟨ns[x], by rw [List.getElem?_eq_getElem]⟩
      have at_ : L2.atI ns (0 + (x : Int)) = some z := by
        unfold L2.atI L2.ixN
        rw [if_pos (by omega), if_pos (by omega)]
        simpa using hz
      have at2 : L2.atI ns (x : Int) = some z := by simpa using at_
      have pw : powD (.int 10) (.int 18) = some (.int 1000000000000000000) := by simp [powD]
      by_cases hr : (1000000000000000000 : Int) ≤ z.natAbs
      · obtain ⟨t, q1, q2, q3⟩ := draws_digits ns g1 (by omega) (.int (0 + (x : Int))) (rest := (z.natAbs : Int)) (by omega)
        have r60 := d_range1 (n := 60) (by omega)
        simp at q3 r60
        exact ⟨t.1, by simp [turn, gDraws2, scrOf, at2, pw, hr, r60, q3], q1, by simp; omega⟩
      · have c1 : (z.natAbs : Int).natAbs < 2 ^ 60 := by omega
        have c2 : (x + 1 : Int).natAbs < 2 ^ 60 := by omega
        have c3 : ((x : Int)).natAbs < 2 ^ 60 := by omega
        have m1 : mulS (.int (z.natAbs : Int)) (.int 48271) = some (.p (.int (z.natAbs * 48271))) := d_mulB c1 (b := 20) (by decide +kernel) (by decide)
        have m2 : mulS (.int (x + 1 : Int)) (.int 69621) = some (.p (.int ((x + 1) * 69621))) := d_mulB c2 (b := 20) (by decide +kernel) (by decide)
        have m4 : mulS (.int 11) (.int x) = some (.p (.int (11 * x))) := d_mulB (a := 4) (by decide +kernel) c3 (by decide)
        have mdA : ∀ y : Int, modD (.int y) (.int 2147483647) = some (.int (y % 2147483647)) := fun y => d_mod (by omega)
        have mdB : ∀ y : Int, modD (.int y) (.int 2147483629) = some (.int (y % 2147483629)) := fun y => d_mod (by omega)
        have mdC : ∀ y : Int, modD (.int y) (.int 65536) = some (.int (y % 65536)) := fun y => d_mod (by omega)
        have mdD : ∀ y : Int, modD (.int y) (.int 32768) = some (.int (y % 32768)) := fun y => d_mod (by omega)
        have dv : ∀ y : Int, divD (.int y) (.int 65536) = some (.int (y / 65536)) := fun y => d_div (by omega) (by decide +kernel)
        have m3 : ∀ y : Int, mulS (.int (y % 2147483647)) (.int 16807) = some (.p (.int (y % 2147483647 * 16807))) := fun y => d_mulB (a := 31) (by omega) (b := 20) (by decide +kernel) (by decide)
        have ap : ∀ (l : List Int) (y : Int), l.length ≤ 10000 → appU (l.map PyData.int) (.int y) = some ((l ++ [y]).map PyData.int) := fun l y hl => by
          rw [d_app (by rw [List.length_map]; omega)]; simp
        have ap1 := fun y => ap ds y (by omega)
        have ap2 := fun y y' => ap (ds ++ [y]) y' (by simp; omega)
        refine ⟨ds ++ [((z.natAbs * 48271 + (x + 1) * 69621 : Int) % 2147483647 * 16807 + 11 * x + 5) % 2147483629 % 65536] ++ [((z.natAbs * 48271 + (x + 1) * 69621 : Int) % 2147483647 * 16807 + 11 * x + 5) % 2147483629 / 65536 % 32768], ?_, drawn_app (drawn_app g1 (by omega) (by omega)) (by omega) (by omega), by simp; omega⟩
        simp [turn, gDraws2, scrOf, at2, pw, hr, m1, m2, m3, m4, mdA, mdB, mdC, mdD, dv, ownL, ap1, ap2, -List.map_append]
  have rg := d_range1 (n := m) (by omega)
  refine ⟨ds, h1, by simp at h2; omega, ?_⟩
  unfold runS
  have e0 : gDraws (some (.s ns) :: List.replicate (6 - 1) none) = some (.rt (.l (ds.map PyData.int))) := by
    simp [gDraws, lstS, scrOf, m3, rg]
    simp at e
    simp [e]
  rw [e0]; rfl
end DL

set_option Elab.async false
set_option linter.all false
set_option maxRecDepth 100000
/-! The plain layer, 3: fractions. -/
namespace DL
open PySem
@[simp] theorem at_0 {α : Type} (x : α) (xs : List α) : L2.atI (x :: xs) 0 = some x := by
  unfold L2.atI L2.ixN
  rw [if_pos (by omega), if_pos (by simp)]
  rfl
@[simp] theorem at_1 {α : Type} (x y : α) (xs : List α) : L2.atI (x :: y :: xs) 1 = some y := by
  unfold L2.atI L2.ixN
  rw [if_pos (by omega), if_pos (by simp; omega)]
  rfl
@[simp] theorem at_2 {α : Type} (x y z : α) (xs : List α) : L2.atI (x :: y :: z :: xs) 2 = some z := by
  unfold L2.atI L2.ixN
  rw [if_pos (by omega), if_pos (by simp; omega)]
  rfl
/-- a fraction, as the program tells it -/
def encQ (q : Rat) : PyData := .tuple [.int q.num, .int q.den]
/-- a fraction of so many bits -/
def QB (k : Nat) (q : Rat) : Prop := q.num.natAbs < 2 ^ k ∧ q.den < 2 ^ k
theorem QB.mono {j k : Nat} {q : Rat} (h : QB j q) (e : j ≤ k) : QB k q :=
  ⟨Nat.lt_of_lt_of_le h.1 (Nat.pow_le_pow_right (by decide) e), Nat.lt_of_lt_of_le h.2 (Nat.pow_le_pow_right (by decide) e)⟩
theorem divInt_num_le (n d : Int) : (Rat.divInt n d).num.natAbs ≤ n.natAbs := by
  rw [Rat.num_divInt]
  refine Nat.le_trans (Int.natAbs_ediv_le_natAbs _ _) ?_
  rw [Int.natAbs_mul]
  have : d.sign.natAbs ≤ 1 := by
    rcases Int.lt_trichotomy d 0 with h | h | h
    · rw [Int.sign_eq_neg_one_of_neg h]; decide
    · subst h; decide
    · rw [Int.sign_eq_one_of_pos h]; decide
  exact Nat.le_trans (Nat.mul_le_mul_right _ this) (by omega)
theorem divInt_den_le {n d : Int} (h : d ≠ 0) : (Rat.divInt n d).den ≤ d.natAbs := by
  rw [Rat.den_divInt, if_neg h]
  exact Nat.div_le_self _ _
theorem qb_divInt {n d : Int} {k : Nat} (hn : n.natAbs < 2 ^ k) (hd : d.natAbs < 2 ^ k) (h : d ≠ 0) : QB k (Rat.divInt n d) :=
  ⟨Nat.lt_of_le_of_lt (divInt_num_le n d) hn, Nat.lt_of_le_of_lt (divInt_den_le h) hd⟩
theorem add_is (p q : Rat) : p + q = Rat.divInt (p.num * q.den + q.num * p.den) (p.den * q.den) := by
  conv => lhs; rw [← Rat.num_divInt_den p, ← Rat.num_divInt_den q]
  rw [Rat.divInt_add_divInt _ _ (by have := p.den_pos; omega) (by have := q.den_pos; omega)]
theorem sub_is (p q : Rat) : p - q = Rat.divInt (p.num * q.den - q.num * p.den) (p.den * q.den) := by
  have e : p - q = p + -q := by grind
  rw [e, add_is, Rat.neg_num, Rat.neg_den]
  congr 1
  rw [Int.neg_mul]; omega
theorem mul_is (p q : Rat) : p * q = Rat.divInt (p.num * q.num) (p.den * q.den) := by
  conv => lhs; rw [← Rat.num_divInt_den p, ← Rat.num_divInt_den q]
  rw [Rat.divInt_mul_divInt]
theorem num_ne {q : Rat} (h : q ≠ 0) : q.num ≠ 0 := fun e => h (Rat.num_eq_zero.mp e)
theorem div_is (p : Rat) {q : Rat} (h : q ≠ 0) : p / q = Rat.divInt (p.num * q.den) (p.den * q.num) := by
  have hq := num_ne h
  have e : q * Rat.divInt q.den q.num = 1 := by
    conv => lhs; lhs; rw [← Rat.num_divInt_den q]
    rw [Rat.divInt_mul_divInt, Int.mul_comm]
    have := q.den_pos
    exact Rat.divInt_self' (Int.mul_ne_zero (by omega) hq)
  have e2 : p / q = p * Rat.divInt q.den q.num := by
    have : p / q * q = p := Rat.div_mul_cancel h
    calc p / q = p / q * (q * Rat.divInt q.den q.num) := by rw [e]; grind
      _ = p * Rat.divInt q.den q.num := by rw [← Rat.mul_assoc, this]
  rw [e2]
  conv => lhs; lhs; rw [← Rat.num_divInt_den p]
  rw [Rat.divInt_mul_divInt]
theorem pow_add_mul {a b j k : Nat} (h1 : a < 2 ^ j) (h2 : b < 2 ^ k) : a * b < 2 ^ (j + k) := by
  rw [Nat.pow_add]
  exact Nat.mul_lt_mul'' h1 h2
theorem nat_mul_lt {i j : Int} {a b : Nat} (h1 : i.natAbs < 2 ^ a) (h2 : j.natAbs < 2 ^ b) : (i * j).natAbs < 2 ^ (a + b) := by
  rw [Int.natAbs_mul]; exact pow_add_mul h1 h2
theorem nat_add_lt {i j : Int} {a : Nat} (h1 : i.natAbs < 2 ^ a) (h2 : j.natAbs < 2 ^ a) : (i + j).natAbs < 2 ^ (a + 1) := by
  have := Int.natAbs_add_le i j
  rw [Nat.pow_succ]; omega
theorem QB.add {j k : Nat} {p q : Rat} (hp : QB j p) (hq : QB k q) : QB (j + k + 1) (p + q) := by
  rw [add_is]
  have h1 : (p.num * q.den).natAbs < 2 ^ (j + k) := nat_mul_lt hp.1 (by simpa using hq.2)
  have h2 : (q.num * p.den).natAbs < 2 ^ (j + k) := by rw [Nat.add_comm]; exact nat_mul_lt hq.1 (by simpa using hp.2)
  have h3 : ((p.den : Int) * q.den).natAbs < 2 ^ (j + k) := nat_mul_lt (by simpa using hp.2) (by simpa using hq.2)
  refine qb_divInt (nat_add_lt h1 h2) (Nat.lt_of_lt_of_le h3 (Nat.pow_le_pow_right (by decide) (by omega))) ?_
  have := p.den_pos
  have := q.den_pos
  exact Int.mul_ne_zero (by omega) (by omega)
theorem QB.neg {k : Nat} {q : Rat} (h : QB k q) : QB k (-q) := ⟨by rw [Rat.neg_num, Int.natAbs_neg]; exact h.1, by rw [Rat.neg_den]; exact h.2⟩
theorem QB.sub {j k : Nat} {p q : Rat} (hp : QB j p) (hq : QB k q) : QB (j + k + 1) (p - q) := by
  have e : p - q = p + -q := by grind
  rw [e]; exact hp.add hq.neg
theorem QB.mul {j k : Nat} {p q : Rat} (hp : QB j p) (hq : QB k q) : QB (j + k) (p * q) := by
  rw [mul_is]
  refine qb_divInt (nat_mul_lt hp.1 hq.1) (nat_mul_lt (by simpa using hp.2) (by simpa using hq.2)) ?_
  have := p.den_pos
  have := q.den_pos
  exact Int.mul_ne_zero (by omega) (by omega)
theorem QB.div {j k : Nat} {p q : Rat} (hp : QB j p) (hq : QB k q) (h : q ≠ 0) : QB (j + k) (p / q) := by
  rw [div_is p h]
  refine qb_divInt (nat_mul_lt hp.1 (by simpa using hq.2)) (nat_mul_lt (by simpa using hp.2) hq.1) ?_
  have := p.den_pos
  exact Int.mul_ne_zero (by omega) (num_ne h)
theorem qb_int {i : Int} {k : Nat} (h : i.natAbs < 2 ^ k) (hk : 0 < k) : QB k (i : Rat) := ⟨by simpa using h, by
  show (1 : Nat) < 2 ^ k
  exact Nat.one_lt_two_pow (by omega)⟩
theorem encQ_int (i : Int) : encQ (i : Rat) = .tuple [.int i, .int 1] := rfl

/-! ### fraction(number, by) -/
/-- what a def that makes fractions gives -/
def MakesQ (Fr : List PyData → Option Sl) : Prop := ∀ n d : Int, d ≠ 0 → d.natAbs < 2 ^ 8999 → Fr [.int n, .int d] = some (.p (encQ (Rat.divInt n d)))
set_option exponentiation.threshold 10000
theorem gcd_log {n d : Int} (h : d ≠ 0) (hs : d.natAbs < 2 ^ 8999) : ((Int.gcd n d : Nat) : Int).natAbs.log2 < 9000 := by
  have h1 : Int.gcd n d ≤ d.natAbs := Nat.le_of_dvd (by omega) (Int.gcd_dvd_natAbs_right n d)
  have h2 : ((Int.gcd n d : Nat) : Int).natAbs < 2 ^ 8999 := by omega
  exact Nat.lt_of_le_of_lt (log2_le h2) (by decide)
theorem encQ_pos {n d : Int} (h : 0 < d) : encQ (Rat.divInt n d) = .tuple [.int (n / (Int.gcd n d : Nat)), .int (d / (Int.gcd n d : Nat))] := by
  unfold encQ
  rw [Rat.num_divInt, Rat.den_divInt, if_neg (by omega), Int.sign_eq_one_of_pos h, Int.one_mul, Int.gcd_comm d n]
  congr 4
  have e : d = (d.natAbs : Int) := by omega
  conv => rhs; lhs; rw [e]
  rfl
theorem encQ_neg {n d : Int} (h : d < 0) : encQ (Rat.divInt n d) = .tuple [.int (-n / (Int.gcd n d : Nat)), .int (-d / (Int.gcd n d : Nat))] := by
  have := encQ_pos (n := -n) (d := -d) (by omega)
  rw [Rat.neg_divInt_neg, Int.gcd_neg, Int.neg_gcd] at this
  exact this
def gFraction : En → Option Out := (gSeq (gIf (f1 bo (f2 ltD (fV 1) (fC (.int 0)))) (gPar 0 1 (f1 negD (fV 0)) (f1 negD (fV 1)))
    gNext)
    (gSeq (gSet 2 (f2 gcdD (fV 0) (fV 1)))
    (gRet (f1 tupD (fCons (f2 divD (fV 0) (fV 2)) (fCons (f2 divD (fV 1) (fV 2)) fNil))))))
theorem fraction_is : MakesQ (runD 3 2 gFraction) := by
  intro n d h hs
  have hg : (0 : Int) < (Int.gcd n d : Nat) := by have := Int.gcd_pos_of_ne_zero_right n h; omega
  have hl := gcd_log (n := n) h hs
  have dv : ∀ x : Int, divD (.int x) (.int (Int.gcd n d : Nat)) = some (.int (x / (Int.gcd n d : Nat))) := fun x => d_div hg hl
  refine run_of rfl ?_
  by_cases hd : d < 0
  · have e2 : Int.gcd (-n) (-d) = Int.gcd n d := by rw [Int.gcd_neg, Int.neg_gcd]
    simp [gFraction, enStart, hd, dv, tupD, endD, encQ_neg hd]
  · simp [gFraction, enStart, hd, dv, tupD, endD, encQ_pos (show 0 < d by omega)]
def gPlus (Fr : List PyData → Option Sl) : En → Option Out := (gRetF (f1 Fr (fCons (frz (f2 addS (frz (f2 mulS (f2 ixD (fV 0) (fC (.int 0))) (f2 ixD (fV 1) (fC (.int 1))))) (frz (f2 mulS (f2 ixD (fV 1) (fC (.int 0))) (f2 ixD (fV 0) (fC (.int 1))))))) (fCons (frz (f2 mulS (f2 ixD (fV 0) (fC (.int 1))) (f2 ixD (fV 1) (fC (.int 1))))) fNil))))
def gMinus (Fr : List PyData → Option Sl) : En → Option Out := (gRetF (f1 Fr (fCons (f2 subD (frz (f2 mulS (f2 ixD (fV 0) (fC (.int 0))) (f2 ixD (fV 1) (fC (.int 1))))) (frz (f2 mulS (f2 ixD (fV 1) (fC (.int 0))) (f2 ixD (fV 0) (fC (.int 1)))))) (fCons (frz (f2 mulS (f2 ixD (fV 0) (fC (.int 1))) (f2 ixD (fV 1) (fC (.int 1))))) fNil))))
def gTimes (Fr : List PyData → Option Sl) : En → Option Out := (gRetF (f1 Fr (fCons (frz (f2 mulS (f2 ixD (fV 0) (fC (.int 0))) (f2 ixD (fV 1) (fC (.int 0))))) (fCons (frz (f2 mulS (f2 ixD (fV 0) (fC (.int 1))) (f2 ixD (fV 1) (fC (.int 1))))) fNil))))
def gOver (Fr : List PyData → Option Sl) : En → Option Out := (gRetF (f1 Fr (fCons (frz (f2 mulS (f2 ixD (fV 0) (fC (.int 0))) (f2 ixD (fV 1) (fC (.int 1))))) (fCons (frz (f2 mulS (f2 ixD (fV 0) (fC (.int 1))) (f2 ixD (fV 1) (fC (.int 0))))) fNil))))
def gLess : En → Option Out := (gRet (f2 ltD (frz (f2 mulS (f2 ixD (fV 0) (fC (.int 0))) (f2 ixD (fV 1) (fC (.int 1))))) (frz (f2 mulS (f2 ixD (fV 1) (fC (.int 0))) (f2 ixD (fV 0) (fC (.int 1)))))))
section
variable {Fr : List PyData → Option Sl} {j k : Nat} {p q : Rat}
theorem den_b (h : QB k q) : ((q.den : Int)).natAbs < 2 ^ k := by simpa using h.2
theorem den_ne (p q : Rat) : (p.den : Int) * q.den ≠ 0 := by
  have := p.den_pos
  have := q.den_pos
  exact Int.mul_ne_zero (by omega) (by omega)
theorem pow_le_8999 {n : Nat} (h : n ≤ 8999) : (2 : Nat) ^ n ≤ 2 ^ 8999 := Nat.pow_le_pow_right (by decide) h
theorem plus_is (hF : MakesQ Fr) (hp : QB j p) (hq : QB k q) (h : j + k ≤ 8999) : runD 2 2 (gPlus Fr) [encQ p, encQ q] = some (.p (encQ (p + q))) := by
  have m1 := d_mulB hp.1 (den_b hq) (by omega)
  have m2 := d_mulB hq.1 (den_b hp) (by omega)
  have m3 := d_mulB (den_b hp) (den_b hq) (by omega)
  have hf := hF (p.num * q.den + q.num * p.den) (p.den * q.den) (den_ne p q) (Nat.lt_of_lt_of_le (nat_mul_lt (den_b hp) (den_b hq)) (pow_le_8999 h))
  refine run_of rfl ?_
  simp [gPlus, enStart, encQ, m1, m2, m3, hf, endD]
  rw [add_is]; exact ⟨rfl, rfl⟩
theorem minus_is (hF : MakesQ Fr) (hp : QB j p) (hq : QB k q) (h : j + k ≤ 8999) : runD 2 2 (gMinus Fr) [encQ p, encQ q] = some (.p (encQ (p - q))) := by
  have m1 := d_mulB hp.1 (den_b hq) (by omega)
  have m2 := d_mulB hq.1 (den_b hp) (by omega)
  have m3 := d_mulB (den_b hp) (den_b hq) (by omega)
  have hf := hF (p.num * q.den - q.num * p.den) (p.den * q.den) (den_ne p q) (Nat.lt_of_lt_of_le (nat_mul_lt (den_b hp) (den_b hq)) (pow_le_8999 h))
  refine run_of rfl ?_
  simp [gMinus, enStart, encQ, m1, m2, m3, hf, endD]
  rw [sub_is]; exact ⟨rfl, rfl⟩
theorem times_is (hF : MakesQ Fr) (hp : QB j p) (hq : QB k q) (h : j + k ≤ 8999) : runD 2 2 (gTimes Fr) [encQ p, encQ q] = some (.p (encQ (p * q))) := by
  have m1 := d_mulB hp.1 hq.1 (by omega)
  have m3 := d_mulB (den_b hp) (den_b hq) (by omega)
  have hf := hF (p.num * q.num) (p.den * q.den) (den_ne p q) (Nat.lt_of_lt_of_le (nat_mul_lt (den_b hp) (den_b hq)) (pow_le_8999 h))
  refine run_of rfl ?_
  simp [gTimes, enStart, encQ, m1, m3, hf, endD]
  rw [mul_is]; exact ⟨rfl, rfl⟩
theorem over_is (hF : MakesQ Fr) (hp : QB j p) (hq : QB k q) (h0 : q ≠ 0) (h : j + k ≤ 8999) : runD 2 2 (gOver Fr) [encQ p, encQ q] = some (.p (encQ (p / q))) := by
  have m1 := d_mulB hp.1 (den_b hq) (by omega)
  have m3 := d_mulB (den_b hp) hq.1 (by omega)
  have hf := hF (p.num * q.den) (p.den * q.num) (Int.mul_ne_zero (by have := p.den_pos; omega) (num_ne h0)) (Nat.lt_of_lt_of_le (nat_mul_lt (den_b hp) hq.1) (pow_le_8999 h))
  refine run_of rfl ?_
  simp [gOver, enStart, encQ, m1, m3, hf, endD]
  rw [div_is p h0]; exact ⟨rfl, rfl⟩
theorem less_is (hp : QB j p) (hq : QB k q) (h : j + k ≤ 8999) : runD 2 2 gLess [encQ p, encQ q] = some (.p (.bool (decide (p < q)))) := by
  have m1 := d_mulB hp.1 (den_b hq) (by omega)
  have m2 := d_mulB hq.1 (den_b hp) (by omega)
  refine run_of rfl ?_
  simp [gLess, enStart, encQ, m1, m2, endD, Rat.lt_iff]
end
/-- the sum of a list of fractions, from the left -/
def sumQ (qs : List Rat) : Rat := qs.foldl (· + ·) 0
theorem sumQ_app (qs : List Rat) (q : Rat) : sumQ (qs ++ [q]) = sumQ qs + q := by simp [sumQ]
theorem foldl_add (qs : List Rat) : ∀ a : Rat, qs.foldl (· + ·) a = a + sumQ qs := by
  induction qs with
  | nil => intro a; simp [sumQ]; grind
  | cons q qs ih =>
    intro a
    unfold sumQ
    rw [List.foldl_cons, List.foldl_cons, ih, ih]
    grind
theorem sumQ_cons (q : Rat) (qs : List Rat) : sumQ (q :: qs) = q + sumQ qs := by
  unfold sumQ
  rw [List.foldl_cons, foldl_add]
  unfold sumQ
  grind
theorem sumQ_append (ps qs : List Rat) : sumQ (ps ++ qs) = sumQ ps + sumQ qs := by
  induction ps with
  | nil => simp [sumQ]; grind
  | cons p ps ih => rw [List.cons_append, sumQ_cons, sumQ_cons, ih]; grind
theorem qb_sum {k : Nat} : ∀ {qs : List Rat}, (∀ q ∈ qs, QB k q) → QB ((k + 1) * qs.length + 1) (sumQ qs)
  | [], _ => by
    have e : (k + 1) * ([] : List Rat).length + 1 = 1 := by simp
    rw [e]
    exact ⟨by decide, by decide⟩
  | q :: qs, h => by
    rw [sumQ_cons]
    have h1 := h q List.mem_cons_self
    have h2 := qb_sum fun p hp => h p (List.mem_cons_of_mem _ hp)
    refine (h1.add h2).mono ?_
    rw [List.length_cons, Nat.mul_add]; omega
def gTotal (Pl : List PyData → Option Sl) : En → Option Out := (gSeq (gSet 1 (f1 tupD (fCons (fC (.int 0)) (fCons (fC (.int 1)) fNil))))
    (gSeq (gFor [2] (f1 itemsD (fV 0)) (.n 2) (gSet 1 (frz (f1 Pl (fCons (fV 1) (fCons (fV 2) fNil))))))
    (gRet (fV 1))))
theorem total_is {Fr : List PyData → Option Sl} (hF : MakesQ Fr) {k : Nat} {qs : List Rat} (h : ∀ q ∈ qs, QB k q) (hk : (k + 1) * qs.length + k ≤ 8990) : runD 3 1 (gTotal (runD 2 2 (gPlus Fr))) [.list (qs.map encQ)] = some (.p (encQ (sumQ qs))) := by
  have e := loop_fn (fs := [2]) (p := .n 2) (gb := gSet 1 (frz (f1 (runD 2 2 (gPlus Fr)) (fCons (fV 1) (fCons (fV 2) fNil))))) encQ (fun pre => [some (.p (.list (qs.map encQ))), some (.p (encQ (sumQ pre))), none]) qs fun pre x post e => by
    have h1 : QB ((k + 1) * pre.length + 1) (sumQ pre) := qb_sum fun q hq => h q (by rw [e]; simp [hq])
    have hl : pre.length < qs.length := pre_lt e
    have h3 : (k + 1) * pre.length ≤ (k + 1) * qs.length := Nat.mul_le_mul_left _ (by omega)
    have e2 := plus_is hF h1 (h x (mem_mid e)) (by omega)
    simp [turn, e2, sumQ_app]
  have e0 : encQ (sumQ []) = .tuple [.int 0, .int 1] := rfl
  rw [e0] at e
  refine run_of rfl ?_
  simp [gTotal, enStart, tupD, e, endD]
end DL

set_option Elab.async false
set_option linter.all false
set_option maxRecDepth 100000
/-! The plain layer, 4: the law's own fractions, by Euclid. -/
namespace DL
open PySem
@[simp] theorem d_neI (i j : Int) : neD (.int i) (.int j) = some (.bool (!decide (i = j))) := by
  show (if okD 60 (.int i) && okD 60 (.int j) then _ else _) = _
  rw [if_pos (by rfl)]
  simp [PyData.eqv]
  rfl
@[simp] theorem d_eqI (i j : Int) : eqD (.int i) (.int j) = some (.bool (decide (i = j))) := by
  show (if okD 60 (.int i) && okD 60 (.int j) then _ else _) = _
  rw [if_pos (by rfl)]
  simp [PyData.eqv]
  rfl
theorem while_go {fs : List Nat} {ba : En → Option Bool} {gb : En → Option Out} {n : Nat} {ρ ρ2 : En} (h1 : ba ρ = some true) (h2 : gb ρ = some (.nx ρ2)) : whileD fs ba gb (n + 1) ρ = whileD fs ba gb n (DL.fgt fs ρ2) := by
  rw [whileD, h1]
  simp [h2]
theorem while_stop {fs : List Nat} {ba : En → Option Bool} {gb : En → Option Out} {n : Nat} {ρ : En} (h1 : ba ρ = some false) : whileD fs ba gb (n + 1) ρ = some (.nx ρ) := by
  rw [whileD, h1]
  rfl
@[simp] theorem st_while (fs : List Nat) (fuel : Nat) (ba : En → Option Bool) (gb : En → Option Out) (ρ : En) : gWhile fs fuel ba gb ρ = whileD fs ba gb fuel (DL.fgt fs ρ) := rfl
abbrev euT : En → Option Bool := f1 bo (f2 neD (fV 3) (fC (.int 0)))
abbrev euB : En → Option Out := gPar 2 3 (fV 3) (f2 modD (f1 intD (fV 2)) (fV 3))
theorem euclid (x y : Option Sl) : ∀ (k : Nat) (a b : Nat) (n : Nat), b < 2 ^ k → 2 * k + 2 ≤ n →
    whileD [] euT euB n [x, y, some (.p (.int a)), some (.p (.int b))] = some (.nx [x, y, some (.p (.int (Nat.gcd a b : Nat))), some (.p (.int 0))]) := by
  have stop : ∀ (a n : Nat), whileD [] euT euB (n + 1) [x, y, some (.p (.int (a : Int))), some (.p (.int ((0 : Nat) : Int)))] = some (.nx [x, y, some (.p (.int a)), some (.p (.int 0))]) := fun a n => while_stop (by simp [euT])
  have go : ∀ (a b n : Nat), b ≠ 0 → whileD [] euT euB (n + 1) [x, y, some (.p (.int (a : Int))), some (.p (.int (b : Int)))] = whileD [] euT euB n [x, y, some (.p (.int (b : Int))), some (.p (.int ((a % b : Nat) : Int)))] := fun a b n hb => by
    have md : modD (.int (a : Int)) (.int (b : Int)) = some (.int (a % b)) := d_mod (by omega)
    rw [while_go (ρ2 := [x, y, some (.p (.int (b : Int))), some (.p (.int ((a % b : Nat) : Int)))]) (by simp [euT]; omega) (by simp [euB, md])]
    rfl
  intro k
  induction k with
  | zero =>
    intro a b n hb hn
    obtain ⟨n, rfl⟩ : ∃ m, n = m + 1 := ⟨n - 1, by omega⟩
    have : b = 0 := by simpa using hb
    subst this
    rw [stop, Nat.gcd_zero_right]
  | succ k ih =>
    intro a b n hb hn
    obtain ⟨n, rfl⟩ : ∃ m, n = m + 1 := ⟨n - 1, by omega⟩
    by_cases h0 : b = 0
    · subst h0; rw [stop, Nat.gcd_zero_right]
    · rw [go a b n h0]
      have hc : a % b < b := Nat.mod_lt _ (by omega)
      have eg : Nat.gcd a b = Nat.gcd b (a % b) := by rw [Nat.gcd_comm a b, Nat.gcd_rec b a, Nat.gcd_comm]
      rw [eg]
      generalize a % b = c at hc
      obtain ⟨n, rfl⟩ : ∃ m, n = m + 1 := ⟨n - 1, by omega⟩
      by_cases h1 : c = 0
      · subst h1; rw [stop, Nat.gcd_zero_right]
      · rw [go b c n h1]
        have hd : 2 * (b % c) < b := by
          have e := Nat.div_add_mod b c
          have h2 : b % c < c := Nat.mod_lt _ (by omega)
          have h3 : 1 ≤ b / c := Nat.div_pos (by omega) (by omega)
          have h4 : c ≤ c * (b / c) := Nat.le_mul_of_pos_right _ h3
          omega
        rw [ih c (b % c) n (by rw [Nat.pow_succ] at hb; omega) (by omega)]
        have eg2 : Nat.gcd b c = Nat.gcd c (b % c) := by rw [Nat.gcd_comm b c, Nat.gcd_rec c b, Nat.gcd_comm]
        rw [eg2]
def gLawFraction : En → Option Out := (gSeq (gPar 2 3 (f1 absD (fV 0)) (f1 absD (fV 1)))
    (gSeq (gWhile [] 100000 (f1 bo (f2 neD (fV 3) (fC (.int 0)))) (gPar 2 3 (fV 3) (f2 modD (f1 intD (fV 2)) (fV 3))))
    (gSeq (gIf (f1 bo (f2 ltD (fV 1) (fC (.int 0)))) (gRet (f1 tupD (fCons (f2 divD (f1 negD (fV 0)) (fV 2)) (fCons (f2 divD (f1 negD (fV 1)) (fV 2)) fNil))))
    gNext)
    (gRet (f1 tupD (fCons (f2 divD (fV 0) (fV 2)) (fCons (f2 divD (fV 1) (fV 2)) fNil)))))))
theorem lawFraction_is : MakesQ (runD 4 2 gLawFraction) := by
  intro n d h hs
  have hg : (0 : Int) < (Int.gcd n d : Nat) := by have := Int.gcd_pos_of_ne_zero_right n h; omega
  have hl := gcd_log (n := n) h hs
  have dv : ∀ x : Int, divD (.int x) (.int (Int.gcd n d : Nat)) = some (.int (x / (Int.gcd n d : Nat))) := fun x => d_div hg hl
  have ew := euclid (some (.p (.int n))) (some (.p (.int d))) 8999 n.natAbs d.natAbs 100000 hs (by omega)
  have eg : Nat.gcd n.natAbs d.natAbs = Int.gcd n d := rfl
  rw [eg] at ew
  refine run_of rfl ?_
  by_cases hd : d < 0
  · simp [gLawFraction, enStart, hd, dv, tupD, endD, encQ_neg hd, ew]
  · simp [gLawFraction, enStart, hd, dv, tupD, endD, encQ_pos (show 0 < d by omega), ew]
end DL

set_option Elab.async false
set_option linter.all false
set_option maxRecDepth 100000
/-! The plain layer, 5: places, enumerate, text, truth. -/
namespace DL
open PySem
theorem at_nat {α : Type} {xs : List α} {i : Nat} {x : α} (h : xs[i]? = some x) : L2.atI xs (i : Int) = some x := by
  have hl : i < xs.length := by
    rcases Nat.lt_or_ge i xs.length with z | z
    · exact z
    · rw [List.getElem?_eq_none z] at h; cases h
  unfold L2.atI L2.ixN
  rw [if_pos (by omega), if_pos (by omega)]
  simpa using h
theorem at_last {α : Type} {xs : List α} {x : α} (h : xs.getLast? = some x) : L2.atI xs (-1) = some x := by
  have hl : 0 < xs.length := by
    cases xs with
    | nil => cases h
    | cons y r => simp
  unfold L2.atI L2.ixN
  rw [if_neg (by omega), if_pos (by omega)]
  rw [List.getLast?_eq_getElem?] at h
  have e : ((-1 : Int) + (xs.length : Int)).toNat = xs.length - 1 := by omega
  show xs[((-1 : Int) + (xs.length : Int)).toNat]? = some x
  rw [e]; exact h
theorem enum_map {α : Type} (enc : α → PyData) (l : List α) : enumL (l.map enc) = l.zipIdx.map fun p => .tuple [.int (p.2 : Nat), enc p.1] := by
  unfold enumL pairL rangeL
  refine List.ext_getElem? fun i => ?_
  rw [List.getElem?_zipWith, List.getElem?_map, List.getElem?_map, List.getElem?_map, List.getElem?_zipIdx, List.length_map]
  by_cases h : i < l.length
  · rw [List.getElem?_range h, List.getElem?_eq_getElem h]
    simp
  · have h1 : (List.range l.length)[i]? = none := List.getElem?_eq_none (by simp; omega)
    rw [h1, List.getElem?_eq_none (by omega : l.length ≤ i)]
    simp
theorem enum_at {α : Type} {l : List α} {pre post : List (α × Nat)} {p : α × Nat} (e : l.zipIdx = pre ++ p :: post) : p.2 = pre.length ∧ l[pre.length]? = some p.1 := by
  have h : l.zipIdx[pre.length]? = some p := by rw [e]; simp
  rw [List.getElem?_zipIdx] at h
  obtain ⟨x, h1, h2⟩ := Option.map_eq_some_iff.mp h
  subst h2
  exact ⟨by simp, h1⟩
@[simp] theorem d_enumL (xs : List PyData) : enumD (.list xs) = some (enumL xs) := rfl
@[simp] theorem d_itemsK (ks : Kvs) : itemsK (.dict ks) = some (itemL ks) := rfl
@[simp] theorem d_keysK (ks : Kvs) : keysK (.dict ks) = some (ks.map (·.1)) := rfl
@[simp] theorem d_sumL (ns : List Int) : sumD (.list (ns.map PyData.int)) = some (.int ns.sum) := by
  have key : ∀ ns : List Int, intsD (ns.map PyData.int) = some ns := by
    intro ns
    induction ns with
    | nil => rfl
    | cons n ns ih =>
      show (intsD (ns.map PyData.int)).map (n :: ·) = _
      rw [ih]; rfl
  show (intsD (ns.map PyData.int)).map _ = _
  rw [key]; rfl
@[simp] theorem d_tup0 : tupD [] = some (.tuple []) := rfl
@[simp] theorem d_tup1 (a : PyData) : tupD [a] = some (.tuple [a]) := by simp [tupD]
@[simp] theorem d_tup2 (a b : PyData) : tupD [a, b] = some (.tuple [a, b]) := by simp [tupD]
@[simp] theorem d_tup3 (a b c : PyData) : tupD [a, b, c] = some (.tuple [a, b, c]) := by simp [tupD]
@[simp] theorem d_tup4 (a b c d : PyData) : tupD [a, b, c, d] = some (.tuple [a, b, c, d]) := by simp [tupD]
@[simp] theorem d_lst0 : lstS [] = some (.l []) := by simp [lstS]
@[simp] theorem d_lst1 (a : PyData) : lstS [a] = some (.l [a]) := by simp [lstS]
@[simp] theorem d_lst2 (a b : PyData) : lstS [a, b] = some (.l [a, b]) := by simp [lstS]
/-! ### repr -/
mutual
/-- how long a text is, at most -/
def sz : PyData → Nat
  | .none => 4
  | .bool _ => 5
  | .int i => (toString i : String).length
  | .str x => (PyData.str x).shown.length
  | .list xs => szs xs + 3
  | .tuple xs => szs xs + 3
  | .dict kvs => (PyData.dict kvs).shown.length
def szs : List PyData → Nat
  | [] => 0
  | x :: xs => sz x + 2 + szs xs
end
mutual
theorem shown_sz : ∀ d : PyData, d.shown.length ≤ sz d
  | .none => by decide
  | .bool b => by cases b <;> decide
  | .int i => by
    rw [sz]
    show (Str.ofString (toString i)).length ≤ _
    rw [Str.ofString_eq_toList]
    show ((toString i : String).toList.map Char.toNat).toArray.size ≤ _
    rw [List.size_toArray, List.length_map]
    exact Nat.le_refl _
  | .str x => Nat.le_refl _
  | .list xs => by
    have h1 := shownAll_sz xs
    have h2 := listText_len_le (PyData.shownAll xs)
    rw [sz]
    simp only [PyData.shown]
    omega
  | .tuple xs => by
    have h1 := shownAll_sz xs
    have h2 := tupleText_len_le (PyData.shownAll xs)
    rw [sz]
    simp only [PyData.shown]
    omega
  | .dict kvs => Nat.le_refl _
theorem shownAll_sz : ∀ xs : List PyData, ((PyData.shownAll xs).map (·.length)).sum + 2 * (PyData.shownAll xs).length ≤ szs xs
  | [] => by simp [PyData.shownAll, szs]
  | x :: xs => by
    have h1 := shown_sz x
    have h2 := shownAll_sz xs
    simp only [PyData.shownAll, List.map_cons, List.sum_cons, List.length_cons, szs]
    omega
end
theorem sz_int {i : Int} {k : Nat} (hk : 0 < k) (h : i.natAbs.log2 < k) : sz (.int i) ≤ k + 1 := by
  rw [sz]
  exact int_text_length_le hk h
theorem szs_le {α : Type} (enc : α → PyData) (B : Nat) : ∀ l : List α, (∀ x ∈ l, sz (enc x) ≤ B) → szs (l.map enc) ≤ (B + 2) * l.length
  | [], _ => by simp [szs]
  | x :: l, h => by
    have h1 := h x List.mem_cons_self
    have h2 := szs_le enc B l fun y hy => h y (List.mem_cons_of_mem _ hy)
    rw [List.map_cons, szs, List.length_cons, Nat.mul_add]
    omega
theorem reprB_of {d : PyData} (h1 : okD 60 d = true) (h2 : d.showable = true) (h3 : sz d ≤ 1000000) : reprB d = true := by
  unfold reprB
  rw [h1, h2, Bool.true_and, Bool.true_and, decide_eq_true_eq]
  exact Nat.le_trans (shown_sz d) h3
/-- two data with one text that can be told -/
theorem repr_tup {xs : List PyData} (h : reprB (.tuple xs) = true) : reprD (.tuple xs) = some (.str (PyData.tuple xs).shown) := by
  show (if reprB (.tuple xs) then _ else _) = _
  rw [if_pos h]
theorem repr_lst {xs : List PyData} (h : reprB (.list xs) = true) : reprD (.list xs) = some (.str (PyData.list xs).shown) := by
  show (if reprB (.list xs) then _ else _) = _
  rw [if_pos h]
/-! ### texts that the tool can compare -/
theorem ok_app {x y : Str} (hx : PyData.strOk x = true) (hy : PyData.strOk y = true) : PyData.strOk (x ++ y) = true := by
  unfold PyData.strOk at *
  show (x.cps ++ y.cps).all _ = true
  rw [Array.all_append, hx, hy]; rfl
theorem ok_of (s : String) : PyData.strOk (Str.ofString s) = true := by
  unfold PyData.strOk
  rw [Str.ofString_eq_toList]
  show ((s.toList.map Char.toNat).toArray).all (· < 0x110000) = true
  rw [List.all_toArray, List.all_map, List.all_eq_true]
  intro c _
  have h := c.valid
  show decide (c.toNat < 0x110000) = true
  rw [decide_eq_true_eq]
  show c.val.toNat < 0x110000
  rcases h with h | ⟨_, h⟩
  · have : c.val.toNat < 0xd800 := h
    omega
  · exact h
theorem ok_from : ∀ (ts : List Str) (k : Nat) (acc : Str), (∀ t ∈ ts, PyData.strOk t = true) → PyData.strOk acc = true → PyData.strOk (textFrom k acc ts) = true
  | [], _, _, _, h => h
  | t :: ts, k, acc, h, ha => ok_from ts (k + 1) _ (fun u hu => h u (List.mem_cons_of_mem _ hu)) (ok_app (ok_app ha (ok_of _)) (h t List.mem_cons_self))
theorem ok_join : ∀ ts : List Str, (∀ t ∈ ts, PyData.strOk t = true) → PyData.strOk (Str.join ", " ts) = true
  | [], _ => by decide +kernel
  | [x], h => h x List.mem_cons_self
  | x :: y :: r, h => by
    show PyData.strOk (x ++ ", " ++ Str.join ", " (y :: r)) = true
    exact ok_app (ok_app (h x List.mem_cons_self) (ok_of _)) (ok_join (y :: r) fun t ht => h t (List.mem_cons_of_mem _ ht))
mutual
/-- no texts within, no dicts -/
def plainD : PyData → Bool
  | .str _ => false
  | .dict _ => false
  | .list xs => plainAll xs
  | .tuple xs => plainAll xs
  | _ => true
def plainAll : List PyData → Bool
  | [] => true
  | x :: xs => plainD x && plainAll xs
end
mutual
theorem ok_shown : ∀ d : PyData, plainD d = true → PyData.strOk d.shown = true
  | .none, _ => ok_of _
  | .bool b, _ => by cases b <;> exact ok_of _
  | .int i, _ => ok_of _
  | .str x, h => by rw [plainD] at h; cases h
  | .list xs, h => by
    rw [plainD] at h
    simp only [PyData.shown]
    exact ok_app (ok_from _ _ _ (ok_shownAll xs h) (ok_of _)) (ok_of _)
  | .tuple xs, h => by
    rw [plainD] at h
    simp only [PyData.shown]
    unfold tupleText
    exact ok_app (ok_app (ok_of _) (ok_join _ (ok_shownAll xs h))) (ok_of _)
  | .dict kvs, h => by rw [plainD] at h; cases h
theorem ok_shownAll : ∀ xs : List PyData, plainAll xs = true → ∀ t ∈ PyData.shownAll xs, PyData.strOk t = true
  | [], _ => fun t ht => by simp [PyData.shownAll] at ht
  | x :: xs, h => by
    rw [plainAll, Bool.and_eq_true] at h
    intro t ht
    simp only [PyData.shownAll] at ht
    rcases List.mem_cons.mp ht with e | ht
    · rw [e]; exact ok_shown x h.1
    · exact ok_shownAll xs h.2 t ht
end
theorem d_neS {x : Str} (h : PyData.strOk x = true) : neD (.str x) (.str x) = some (.bool false) := by
  show (if okD 60 (.str x) && okD 60 (.str x) then _ else _) = _
  rw [if_pos (by simp [okD, h])]
  simp [PyData.eqv]
theorem d_eqS {x : Str} (h : PyData.strOk x = true) : eqD (.str x) (.str x) = some (.bool true) := by
  show (if okD 60 (.str x) && okD 60 (.str x) then _ else _) = _
  rw [if_pos (by simp [okD, h])]
  simp [PyData.eqv]
/-! ### fractions: compared, told -/
theorem okD_encQ (q : Rat) : okD 60 (encQ q) = true := by simp [encQ, okD, okAll]
theorem eqv_encQ (p q : Rat) : PyData.eqv (encQ p) (encQ q) = decide (p = q) := by
  unfold encQ
  simp only [PyData.eqv, PyData.eqvAll]
  by_cases h : p = q
  · subst h; simp
  · have : ¬ (p.num = q.num ∧ p.den = q.den) := fun ⟨h1, h2⟩ => h (Rat.ext h1 h2)
    simp only [h, decide_false]
    by_cases h1 : p.num = q.num
    · have h2 : ¬ p.den = q.den := fun z => this ⟨h1, z⟩
      simp [h1]; omega
    · simp [h1]
@[simp] theorem d_eqQ (p q : Rat) : eqD (encQ p) (encQ q) = some (.bool (decide (p = q))) := by
  show (if okD 60 (encQ p) && okD 60 (encQ q) then _ else _) = _
  rw [okD_encQ, okD_encQ, eqv_encQ]; rfl
@[simp] theorem d_neQ (p q : Rat) : neD (encQ p) (encQ q) = some (.bool (!decide (p = q))) := by
  show (if okD 60 (encQ p) && okD 60 (encQ q) then _ else _) = _
  rw [okD_encQ, okD_encQ, eqv_encQ]; rfl
theorem repr_Q {q : Rat} (h : QB 1919 q) : reprD (encQ q) = some (.str (encQ q).shown) ∧ PyData.strOk (encQ q).shown = true := by
  have h1 := log2_lt h.1 (by decide)
  have h2 := log2_lt (den_b h) (by decide)
  have h3 := sz_int (by decide) h1
  have h4 := sz_int (by decide) h2
  refine ⟨repr_tup (reprB_of (okD_encQ q) ?_ ?_), ok_shown _ (by simp [encQ, plainD, plainAll])⟩
  · simp only [PyData.showable, PyData.showableAll, Bool.and_true, Bool.and_eq_true, decide_eq_true_eq]
    omega
  · show sz (.tuple [.int q.num, .int q.den]) ≤ 1000000
    simp only [sz, szs] at h3 h4 ⊢
    omega
end DL

set_option Elab.async false
set_option linter.all false
set_option maxRecDepth 100000
namespace K54
open PySem PySem.Spec PyProof.Rows L2 DL
def topS (i : Nat) : Stmt := PySem.Challenge.pw_triedwares_k54_whole_chains_of_sizes.main.body.getD i (.Pass ⟨0, 0, 0, 0⟩)
structure Txt (K : PySem.W.Frag) (mg : Str → Option Value) (Ad : Nat → Addr) (Fd : Nat → FuncData) : Prop where
  d__law_added : DefAt K mg "_law_added" "_law_added" (topS 35) ["told"] (Ad 35) (Fd 35)
  d__law_chain : DefAt K mg "_law_chain" "_law_chain" (topS 36) ["draws", "k", "most"] (Ad 36) (Fd 36)
  d__law_draws : DefAt K mg "_law_draws" "_law_draws" (topS 29) ["script"] (Ad 29) (Fd 29)
  d__law_fraction : DefAt K mg "_law_fraction" "_law_fraction" (topS 31) ["n", "d"] (Ad 31) (Fd 31)
  d__law_less : DefAt K mg "_law_less" "_law_less" (topS 34) ["one", "two"] (Ad 34) (Fd 34)
  d__law_mix : DefAt K mg "_law_mix" "_law_mix" (topS 30) ["draws", "k", "many"] (Ad 30) (Fd 30)
  d__law_plus : DefAt K mg "_law_plus" "_law_plus" (topS 32) ["one", "two"] (Ad 32) (Fd 32)
  d__law_times : DefAt K mg "_law_times" "_law_times" (topS 33) ["one", "two"] (Ad 33) (Fd 33)
  d__law_ways : DefAt K mg "_law_ways" "_law_ways" (topS 37) ["chain"] (Ad 37) (Fd 37)
  d_check_chain : DefAt K mg "check_chain" "check_chain" (topS 19) ["chain"] (Ad 19) (Fd 19)
  d_ends : DefAt K mg "ends" "ends" (topS 22) ["chain"] (Ad 22) (Fd 22)
  d_fraction : DefAt K mg "fraction" "fraction" (topS 7) ["number", "by"] (Ad 7) (Fd 7)
  d_is_link : DefAt K mg "is_link" "is_link" (topS 18) ["link"] (Ad 18) (Fd 18)
  d_law : DefAt K mg "law" "law" (topS 38) ["script"] (Ad 38) (Fd 38)
  d_mean : DefAt K mg "mean" "mean" (topS 24) ["chain"] (Ad 24) (Fd 24)
  d_mean_error : DefAt K mg "mean_error" "mean_error" (topS 23) ["errors"] (Ad 23) (Fd 23)
  d_minus : DefAt K mg "minus" "minus" (topS 9) ["one", "two"] (Ad 9) (Fd 9)
  d_plus : DefAt K mg "plus" "plus" (topS 8) ["one", "two"] (Ad 8) (Fd 8)
  d_share : DefAt K mg "share" "share" (topS 27) ["chain", "low", "high"] (Ad 27) (Fd 27)
  d_spread : DefAt K mg "spread" "spread" (topS 26) ["chain"] (Ad 26) (Fd 26)
  d_spread_of : DefAt K mg "spread_of" "spread_of" (topS 25) ["errors"] (Ad 25) (Fd 25)
  d_times : DefAt K mg "times" "times" (topS 10) ["one", "two"] (Ad 10) (Fd 10)
  d_total : DefAt K mg "total" "total" (topS 11) ["told"] (Ad 11) (Fd 11)
  d_ways : DefAt K mg "ways" "ways" (topS 21) ["chain"] (Ad 21) (Fd 21)
  d_ways_of : DefAt K mg "ways_of" "ways_of" (topS 20) ["chain"] (Ad 20) (Fd 20)
  z_abs : mg "abs" = none
  z_enumerate : mg "enumerate" = none
  z_int : mg "int" = none
  z_len : mg "len" = none
  z_max : mg "max" = none
  z_min : mg "min" = none
  z_range : mg "range" = none
  z_repr : mg "repr" = none
  z_set : mg "set" = none
  z_sorted : mg "sorted" = none
  z_sum : mg "sum" = none
  c_MOST_COUNT : ∃ t, mg "MOST_COUNT" = some (.int 100 t)
  c_MOST_ERROR : ∃ t, mg "MOST_ERROR" = some (.int 50 t)
  c_MOST_ERRORS : ∃ t, mg "MOST_ERRORS" = some (.int 6 t)
  c_MOST_LINK : ∃ t, mg "MOST_LINK" = some (.int 1000 t)
  c_MOST_LINKS : ∃ t, mg "MOST_LINKS" = some (.int 8 t)
  g_gcd : mg "gcd" = some (.builtin "math.gcd")
section
variable {P : Program} {w : World} {K : PySem.W.Frag} {mg : Str → Option Value} {base : Heap} {Ad : Nat → Addr} {Fd : Nat → FuncData}
/-! _law_draws -/
abbrev s__law_draws : Stmt := topS 29
theorem sc__law_draws : FnScope ["script", "draws", "k", "rest", "turn", "mixed"] ["script"] (defScope s__law_draws) := ⟨rfl, rfl, rfl, by decide +kernel, rfl, by decide +kernel, by decide +kernel⟩
noncomputable def b__law_draws_1 : En → Option Out := (gIf (f1 bo (f2 gtD (fV 3) (fC (.int 0)))) (gSeq (gOp1 1 appU (f2 modD (f1 intD (fV 3)) (fC (.int 65536))))
    (gSet 3 (f2 divD (fV 3) (fC (.int 65536)))))
    gNext)
noncomputable def b__law_draws_2 : En → Option Out := (gSeq (gSet 3 (f1 absD (fun ρ => (scrOf 0 ρ).bind fun ns => ((fV 2) ρ).bind fun k => match k with | .int k => (atI ns k).map .int | _ => none)))
    (gIf (f1 bo (f2 geD (fV 3) (f2 powD (fC (.int 10)) (fC (.int 18))))) (gFor [4] (f1 range1D (fC (.int 60))) (.n 4) b__law_draws_1)
    (gSeq (gSet 5 (f2 modD (f1 intD (frz (f2 addS (frz (f2 mulS (fV 3) (fC (.int 48271)))) (frz (f2 mulS (frz (f2 addS (fV 2) (fC (.int 1)))) (fC (.int 69621))))))) (fC (.int 2147483647))))
    (gSeq (gSet 5 (f2 modD (f1 intD (frz (f2 addS (frz (f2 addS (frz (f2 mulS (fV 5) (fC (.int 16807)))) (frz (f2 mulS (fC (.int 11)) (fV 2))))) (fC (.int 5))))) (fC (.int 2147483629))))
    (gSeq (gOp1 1 appU (f2 modD (f1 intD (fV 5)) (fC (.int 65536))))
    (gOp1 1 appU (f2 modD (f1 intD (f2 divD (fV 5) (fC (.int 65536)))) (fC (.int 32768)))))))))
noncomputable def g__law_draws : En → Option Out := (gSeq (gSetF 1 (f1 lstS fNil))
    (gSeq (gFor [2, 3, 4, 5] (f1 range1D (f2 minD2 (fC (.int 63)) (fun ρ => (scrOf 0 ρ).map fun ns => .int ns.length))) (.n 2) b__law_draws_2)
    (gRetV 1)))
noncomputable def F__law_draws : List Int → Option Sl := runS 6 g__law_draws
theorem ok__law_draws (T : Txt K mg Ad Fd) : FnOk P w K mg base CX0 1 (Ad 29) (Fd 29) ["script"] (spS K F__law_draws) :=
  have nd := sc__law_draws.nd
  fn_s (g := g__law_draws) T.d__law_draws.fn sc__law_draws rfl (fun _ _ h => h) fun cdv A outer s H E hr => by exact (ss_cons (sd_setF (i := 1) nd rfl (by first | exact Or.inl rfl | exact Or.inr rfl) (pf_lst ar_nil))
    (ss_cons (sd_for (fs := [2, 3, 4, 5]) PassesOwn.never rfl (it_range1 rfl T.z_range (PD.top (pd_callB2 (cd_min2 rfl) rfl T.z_min (by decide +kernel) (PD.top pd_int) (PD.top (pd_lenS 0 rfl T.z_len))))) (pt_name (i := 2) nd rfl (by first | exact Or.inl rfl | exact Or.inr rfl)) (ss_cons (sd_set (i := 3) nd rfl (by first | exact Or.inl rfl | exact Or.inr rfl) (pd_callB cd_abs rfl T.z_abs (by decide +kernel) (PD.top (pd_ixS 0 (PD.top (pd_v 2))))))
    (ss_one (sd_if (pb_cmp cmp_ge (PD.top (pd_v 3)) (PD.top (pd_pow (PD.top pd_int) (PD.top pd_int)))) (ss_one (sd_for (fs := [4]) PassesOwn.never rfl (it_range1 rfl T.z_range (PD.top pd_int)) (pt_name (i := 4) nd rfl (by first | exact Or.inl rfl | exact Or.inr rfl)) (ss_one (sd_if (pb_cmp cmp_gt (PD.top (pd_v 3)) (PD.top pd_int)) (ss_cons (sd_append 1 (pd_mod (PD.top (pd_callTy cd_int rfl T.z_int (by decide +kernel) (PD.top (pd_v 3)))) (PD.top pd_int)))
    (ss_one (sd_set (i := 3) nd rfl (by first | exact Or.inl rfl | exact Or.inr rfl) (pd_div (PD.top (pd_v 3)) (PD.top pd_int)))))
    ss_nil))))
    (ss_cons (sd_set (i := 5) nd rfl (by first | exact Or.inl rfl | exact Or.inr rfl) (pd_mod (PD.top (pd_callTy cd_int rfl T.z_int (by decide +kernel) (PF.top (pf_add (PF.top (pf_mul (PD.top (pd_v 3)) (PD.top pd_int))) (PF.top (pf_mul (PF.top (pf_add (PD.top (pd_v 2)) (PD.top pd_int))) (PD.top pd_int))))))) (PD.top pd_int)))
    (ss_cons (sd_set (i := 5) nd rfl (by first | exact Or.inl rfl | exact Or.inr rfl) (pd_mod (PD.top (pd_callTy cd_int rfl T.z_int (by decide +kernel) (PF.top (pf_add (PF.top (pf_add (PF.top (pf_mul (PD.top (pd_v 5)) (PD.top pd_int))) (PF.top (pf_mul (PD.top pd_int) (PD.top (pd_v 2)))))) (PD.top pd_int))))) (PD.top pd_int)))
    (ss_cons (sd_append 1 (pd_mod (PD.top (pd_callTy cd_int rfl T.z_int (by decide +kernel) (PD.top (pd_v 5)))) (PD.top pd_int)))
    (ss_one (sd_append 1 (pd_mod (PD.top (pd_callTy cd_int rfl T.z_int (by decide +kernel) (PD.top (pd_div (PD.top (pd_v 5)) (PD.top pd_int))))) (PD.top pd_int)))))))))))
    (ss_one (sd_retV 1))))
/-! _law_mix -/
abbrev s__law_mix : Stmt := topS 30
theorem sc__law_mix : FnScope ["draws", "k", "many", "cell"] ["draws", "k", "many"] (defScope s__law_mix) := ⟨rfl, rfl, rfl, by decide +kernel, rfl, by decide +kernel, by decide +kernel⟩
noncomputable def g__law_mix : En → Option Out := (gSeq (gSet 3 (fC (.int 0)))
    (gSeq (gIf (f1 bo (f2 gtD (f1 lenD (fV 0)) (fC (.int 0)))) (gSet 3 (f2 ixD (fV 0) (f2 modD (f1 intD (fV 1)) (f1 lenD (fV 0)))))
    gNext)
    (gSeq (gIf (f1 bo (f2 ltD (fV 1) (f1 lenD (fV 0)))) (gRet (f2 modD (f1 intD (fV 3)) (fV 2)))
    gNext)
    (gRet (f2 modD (f1 intD (f2 divD (f1 intD (frz (f2 addS (frz (f2 mulS (fV 3) (fC (.int 7919)))) (frz (f2 mulS (fV 1) (fC (.int 104729))))))) (fC (.int 3)))) (fV 2))))))
noncomputable def F__law_mix : List PyData → Option Sl := runD 4 3 g__law_mix
theorem ok__law_mix (T : Txt K mg Ad Fd) : FnOk P w K mg base CX0 1 (Ad 30) (Fd 30) ["draws", "k", "many"] (spD K F__law_mix) :=
  have nd := sc__law_mix.nd
  fn_d (g := g__law_mix) T.d__law_mix.fn sc__law_mix (fun _ _ h => h) fun cdv A outer s H E hr => by exact (ss_cons (sd_set (i := 3) nd rfl (by first | exact Or.inl rfl | exact Or.inr rfl) pd_int)
    (ss_cons (sd_if (pb_cmp cmp_gt (PD.top (pd_callB cd_len rfl T.z_len (by decide +kernel) (PD.top (pd_v 0)))) (PD.top pd_int)) (ss_one (sd_set (i := 3) nd rfl (by first | exact Or.inl rfl | exact Or.inr rfl) (pd_ix (PD.top (pd_v 0)) (PD.top (pd_mod (PD.top (pd_callTy cd_int rfl T.z_int (by decide +kernel) (PD.top (pd_v 1)))) (PD.top (pd_callB cd_len rfl T.z_len (by decide +kernel) (PD.top (pd_v 0)))))))))
    ss_nil)
    (ss_cons (sd_if (pb_cmp cmp_lt (PD.top (pd_v 1)) (PD.top (pd_callB cd_len rfl T.z_len (by decide +kernel) (PD.top (pd_v 0))))) (ss_one (sd_ret (pd_mod (PD.top (pd_callTy cd_int rfl T.z_int (by decide +kernel) (PD.top (pd_v 3)))) (PD.top (pd_v 2)))))
    ss_nil)
    (ss_one (sd_ret (pd_mod (PD.top (pd_callTy cd_int rfl T.z_int (by decide +kernel) (PD.top (pd_div (PD.top (pd_callTy cd_int rfl T.z_int (by decide +kernel) (PF.top (pf_add (PF.top (pf_mul (PD.top (pd_v 3)) (PD.top pd_int))) (PF.top (pf_mul (PD.top (pd_v 1)) (PD.top pd_int))))))) (PD.top pd_int))))) (PD.top (pd_v 2))))))))
/-! _law_chain -/
abbrev s__law_chain : Stmt := topS 36
theorem sc__law_chain : FnScope ["draws", "k", "most", "found", "t", "at", "errors", "error", "j"] ["draws", "k", "most"] (defScope s__law_chain) := ⟨rfl, rfl, rfl, by decide +kernel, rfl, by decide +kernel, by decide +kernel⟩
noncomputable def b__law_chain_1 : En → Option PyData := (f2 subD (frz (f1 F__law_mix (fCons (fV 0) (fCons (frz (f2 addS (frz (f2 addS (fV 5) (fC (.int 2)))) (fV 8))) (fCons (fC (.int 11)) fNil))))) (fC (.int 5)))
noncomputable def b__law_chain_2 : En → Option Out := (gOp1 6 appU (f1 tupD (fCons (fV 7) (fCons (frz (f2 addS (fC (.int 1)) (frz (f1 F__law_mix (fCons (fV 0) (fCons (frz (f2 addS (frz (f2 addS (fV 5) (fC (.int 6)))) (f1 lenD (fVT 6)))) (fCons (fC (.int 4)) fNil))))))) fNil))))
noncomputable def b__law_chain_3 : En → Option Out := (gSeq (gSet 5 (frz (f2 addS (frz (f2 addS (fV 1) (fC (.int 1)))) (frz (f2 mulS (fC (.int 12)) (fV 4))))))
    (gSeq (gSetF 6 (f1 lstS fNil))
    (gSeq (gFor [7] (f1 itemsD (frz (f1 sortedSetS (frz (fLc [8] (f1 range1D (frz (f2 addS (fC (.int 1)) (frz (f1 F__law_mix (fCons (fV 0) (fCons (frz (f2 addS (fV 5) (fC (.int 1)))) (fCons (fC (.int 3)) fNil)))))))) (.n 8) fYes b__law_chain_1))))) (.n 7) b__law_chain_2)
    (gRel 6 (gOp1 3 appU (f1 tupD (fCons (f2 subD (fC (.int 1)) (frz (f2 mulS (fC (.int 2)) (frz (f1 F__law_mix (fCons (fV 0) (fCons (fV 5) (fCons (fC (.int 2)) fNil)))))))) (fCons (frz (f1 F__law_mix (fCons (fV 0) (fCons (frz (f2 addS (fV 5) (fC (.int 10)))) (fCons (fC (.int 30)) fNil))))) (fCons (fV 6) fNil)))))))))
noncomputable def g__law_chain : En → Option Out := (gSeq (gSetF 3 (f1 lstS fNil))
    (gSeq (gFor [4, 5, 6, 7] (f1 range1D (frz (f2 addS (fC (.int 1)) (frz (f1 F__law_mix (fCons (fV 0) (fCons (fV 1) (fCons (fV 2) fNil)))))))) (.n 4) b__law_chain_3)
    (gRetV 3)))
noncomputable def F__law_chain : List PyData → Option Sl := runD 9 3 g__law_chain
theorem ok__law_chain (T : Txt K mg Ad Fd) : FnOk P w K mg base CX0 2 (Ad 36) (Fd 36) ["draws", "k", "most"] (spD K F__law_chain) :=
  have nd := sc__law_chain.nd
  fn_d (g := g__law_chain) T.d__law_chain.fn sc__law_chain (fun _ _ h => h) fun cdv A outer s H E hr => by exact (ss_cons (sd_setF (i := 3) nd rfl (by first | exact Or.inl rfl | exact Or.inr rfl) (pf_lst ar_nil))
    (ss_cons (sd_for (fs := [4, 5, 6, 7]) PassesOwn.never rfl (it_range1 rfl T.z_range (PF.top (pf_add (PD.top pd_int) (PF.top (pf_call (ok__law_mix T) (hr.mono (by decide)) rfl T.d__law_mix.at_ T.d__law_mix.fn.kp T.d__law_mix.bi (ar_cons (pd_v 0) (ar_cons (pd_v 1) (ar_cons (pd_v 2) ar_nil)))))))) (pt_name (i := 4) nd rfl (by first | exact Or.inl rfl | exact Or.inr rfl)) (ss_cons (sd_set (i := 5) nd rfl (by first | exact Or.inl rfl | exact Or.inr rfl) (PF.cl (pf_add (PF.top (pf_add (PD.top (pd_v 1)) (PD.top pd_int))) (PF.top (pf_mul (PD.top pd_int) (PD.top (pd_v 4)))))))
    (ss_cons (sd_setF (i := 6) nd rfl (by first | exact Or.inl rfl | exact Or.inr rfl) (pf_lst ar_nil))
    (ss_cons (sd_for (fs := [7]) PassesOwn.never rfl (it_seq (PD.x (PF.cl (pf_sortedSet rfl rfl T.z_sorted rfl T.z_set (PF.top (pf_lc (own := [("j", 8)]) rfl nd (it_range1 rfl T.z_range (PF.top (pf_add (PD.top pd_int) (PF.top (pf_call (ok__law_mix T) (hr.mono (by decide)) rfl T.d__law_mix.at_ T.d__law_mix.fn.kp T.d__law_mix.bi (ar_cons (pd_v 0) (ar_cons (PF.cl (pf_add (PD.top (pd_v 5)) (PD.top pd_int))) (ar_cons pd_int ar_nil)))))))) (blkOk_by (by kernel_rfl)) (by decide) (fun _ _ _ _ _ => (pt_name (i := 8) nd rfl (by first | exact Or.inl rfl | exact Or.inr rfl))) (fun _ _ _ _ _ => ptb_nil) (fun _ _ _ _ _ => (pd_sub (PF.top (pf_call (ok__law_mix T) (hr.mono (by decide)) rfl T.d__law_mix.at_ T.d__law_mix.fn.kp T.d__law_mix.bi (ar_cons (pd_v 0) (ar_cons (PF.cl (pf_add (PF.top (pf_add (PD.top (pd_v 5)) (PD.top pd_int))) (PD.top (pd_v 8)))) (ar_cons pd_int ar_nil))))) (PD.top pd_int))))))))) (pt_name (i := 7) nd rfl (by first | exact Or.inl rfl | exact Or.inr rfl)) (ss_one (sd_append 6 (pd_tup (ar_cons (pd_v 7) (ar_cons (PF.cl (pf_add (PD.top pd_int) (PF.top (pf_call (ok__law_mix T) (hr.mono (by decide)) rfl T.d__law_mix.at_ T.d__law_mix.fn.kp T.d__law_mix.bi (ar_cons (pd_v 0) (ar_cons (PF.cl (pf_add (PF.top (pf_add (PD.top (pd_v 5)) (PD.top pd_int))) (PD.top (pd_callB cd_len rfl T.z_len (by decide +kernel) (pt_v 6))))) (ar_cons pd_int ar_nil))))))) ar_nil))))))
    (ss_one (sd_rel 6 (sd_append 3 (pd_tup (ar_cons (pd_sub (PD.top pd_int) (PF.top (pf_mul (PD.top pd_int) (PF.top (pf_call (ok__law_mix T) (hr.mono (by decide)) rfl T.d__law_mix.at_ T.d__law_mix.fn.kp T.d__law_mix.bi (ar_cons (pd_v 0) (ar_cons (pd_v 5) (ar_cons pd_int ar_nil)))))))) (ar_cons (PF.cl (pf_call (ok__law_mix T) (hr.mono (by decide)) rfl T.d__law_mix.at_ T.d__law_mix.fn.kp T.d__law_mix.bi (ar_cons (pd_v 0) (ar_cons (PF.cl (pf_add (PD.top (pd_v 5)) (PD.top pd_int))) (ar_cons pd_int ar_nil))))) (ar_cons (pd_v 6) ar_nil)))))))))))
    (ss_one (sd_retV 3))))
/-! _law_ways -/
abbrev s__law_ways : Stmt := topS 37
theorem sc__law_ways : FnScope ["chain", "found", "sign", "size", "errors", "later", "whole", "many", "told", "error", "count"] ["chain"] (defScope s__law_ways) := ⟨rfl, rfl, rfl, by decide +kernel, rfl, by decide +kernel, by decide +kernel⟩
noncomputable def b__law_ways_1 : En → Option PyData := (f1 tupD (fCons (frz (f2 addS (fV 6) (frz (f2 mulS (fV 2) (frz (f2 addS (fV 3) (fV 9))))))) (fCons (frz (f2 mulS (fV 7) (fV 10))) fNil)))
noncomputable def b__law_ways_2 : En → Option PyData := (f1 tupD (fCons (frz (f2 addS (fV 6) (frz (f2 mulS (fV 2) (frz (f2 addS (fV 3) (fV 9))))))) (fCons (frz (f2 mulS (fV 7) (fV 10))) fNil)))
noncomputable def b__law_ways_3 : En → Option Out := (gSet 5 (frz (f2 addS (fV 5) (frz (fLc [9, 10] (f1 itemsD (fV 4)) (.t [(.n 9), (.n 10)]) fYes b__law_ways_2)))))
noncomputable def b__law_ways_4 : En → Option Out := (gSeq (gSet 5 (frz (f1 lstS fNil)))
    (gSeq (gFor [6, 7] (f1 itemsD (fV 1)) (.t [(.n 6), (.n 7)]) b__law_ways_3)
    (gSet 1 (fV 5))))
noncomputable def b__law_ways_5 : En → Option Out := (gPut 8 (fV 6) (frz (f2 addS (getD2 (fVT 8) (fV 6) (fC (.int 0))) (fV 7))))
noncomputable def g__law_ways : En → Option Out := (gSeq (gSet 1 (frz (f1 lstS (fCons (f1 tupD (fCons (fC (.int 0)) (fCons (fC (.int 1)) fNil))) fNil))))
    (gSeq (gFor [2, 3, 4, 5, 6, 7] (f1 itemsD (fV 0)) (.t [(.n 2), (.n 3), (.n 4)]) b__law_ways_4)
    (gSeq (gSetF 8 (fun _ => some (.k [])))
    (gSeq (gFor [6, 7] (f1 itemsD (fV 1)) (.t [(.n 6), (.n 7)]) b__law_ways_5)
    (gRetV 8)))))
noncomputable def F__law_ways : List PyData → Option Sl := runD 11 1 g__law_ways
theorem ok__law_ways (T : Txt K mg Ad Fd) : FnOk P w K mg base CX0 1 (Ad 37) (Fd 37) ["chain"] (spD K F__law_ways) :=
  have nd := sc__law_ways.nd
  fn_d (g := g__law_ways) T.d__law_ways.fn sc__law_ways (fun _ _ h => h) fun cdv A outer s H E hr => by exact (ss_cons (sd_set (i := 1) nd rfl (by first | exact Or.inl rfl | exact Or.inr rfl) (PF.cl (pf_lst (ar_cons (pd_tup (ar_cons pd_int (ar_cons pd_int ar_nil))) ar_nil))))
    (ss_cons (sd_for (fs := [2, 3, 4, 5, 6, 7]) PassesOwn.never rfl (it_seq (PD.x (pd_v 0))) (pt_tup rfl (pts_consP (pt_name (i := 2) nd rfl (by first | exact Or.inl rfl | exact Or.inr rfl)) (pts_consP (pt_name (i := 3) nd rfl (by first | exact Or.inl rfl | exact Or.inr rfl)) (pts_consP (pt_name (i := 4) nd rfl (by first | exact Or.inl rfl | exact Or.inr rfl)) pts_nilP)))) (ss_cons (sd_set (i := 5) nd rfl (by first | exact Or.inl rfl | exact Or.inr rfl) (PF.cl (pf_lst ar_nil)))
    (ss_cons (sd_for (fs := [6, 7]) PassesOwn.never rfl (it_seq (PD.x (pd_v 1))) (pt_tup rfl (pts_consP (pt_name (i := 6) nd rfl (by first | exact Or.inl rfl | exact Or.inr rfl)) (pts_consP (pt_name (i := 7) nd rfl (by first | exact Or.inl rfl | exact Or.inr rfl)) pts_nilP))) (ss_one (sd_set (i := 5) nd rfl (by first | exact Or.inl rfl | exact Or.inr rfl) (PF.cl (pf_add (PD.top (pd_v 5)) (PF.top (pf_lc (own := [("error", 9), ("count", 10)]) rfl nd (it_seq (PTp.x (PD.top (pd_v 4)))) (blkOk_by (by kernel_rfl)) (by decide) (fun _ _ _ _ _ => (pt_tup rfl (pts_consP (pt_name (i := 9) nd rfl (by first | exact Or.inl rfl | exact Or.inr rfl)) (pts_consP (pt_name (i := 10) nd rfl (by first | exact Or.inl rfl | exact Or.inr rfl)) pts_nilP)))) (fun _ _ _ _ _ => ptb_nil) (fun _ _ _ _ _ => (pd_tup (ar_cons (PF.cl (pf_add (PD.top (pd_v 6)) (PF.top (pf_mul (PD.top (pd_v 2)) (PF.top (pf_add (PD.top (pd_v 3)) (PD.top (pd_v 9)))))))) (ar_cons (PF.cl (pf_mul (PD.top (pd_v 7)) (PD.top (pd_v 10)))) ar_nil)))))))))))
    (ss_one (sd_set (i := 1) nd rfl (by first | exact Or.inl rfl | exact Or.inr rfl) (pd_v 5))))))
    (ss_cons (sd_setF (i := 8) nd rfl (by first | exact Or.inl rfl | exact Or.inr rfl) pf_dnew)
    (ss_cons (sd_for (fs := [6, 7]) PassesOwn.never rfl (it_seq (PD.x (pd_v 1))) (pt_tup rfl (pts_consP (pt_name (i := 6) nd rfl (by first | exact Or.inl rfl | exact Or.inr rfl)) (pts_consP (pt_name (i := 7) nd rfl (by first | exact Or.inl rfl | exact Or.inr rfl)) pts_nilP))) (ss_one (sd_put 8 hr (PD.top (pd_v 6)) (PF.cl (pf_add (PD.top (pd_get2 hr (pt_v 8) (PD.top (pd_v 6)) pd_int)) (PD.top (pd_v 7)))))))
    (ss_one (sd_retV 8))))))
/-! is_link -/
abbrev s_is_link : Stmt := topS 18
theorem sc_is_link : FnScope ["link", "sign", "size", "errors", "k", "error", "count"] ["link"] (defScope s_is_link) := ⟨rfl, rfl, rfl, by decide +kernel, rfl, by decide +kernel, by decide +kernel⟩
noncomputable def b_is_link_1 : En → Option Out := (gSeq (gIf (fOr (fNotB (f1 bo (fChain leD leD (f1 negD (fC (.int 50))) (fV 5) (fC (.int 50))))) (fNotB (f1 bo (fChain leD leD (fC (.int 1)) (fV 6) (fC (.int 100)))))) (gRet (fC (.bool false)))
    gNext)
    (gIf (fAnd (f1 bo (f2 gtD (fV 4) (fC (.int 0)))) (f1 bo (f2 geD (f2 ixD (f2 ixD (fV 3) (f2 subD (fV 4) (fC (.int 1)))) (fC (.int 0))) (fV 5)))) (gRet (fC (.bool false)))
    gNext))
noncomputable def g_is_link : En → Option Out := (gSeq (gPat (.t [(.n 1), (.n 2), (.n 3)]) (fV 0))
    (gSeq (gIf (fOr (f1 bo (f2 notinD (fV 1) (f1 tupD (fCons (fC (.int 1)) (fCons (f1 negD (fC (.int 1))) fNil))))) (fOr (fNotB (f1 bo (fChain leD leD (fC (.int 0)) (fV 2) (fC (.int 1000))))) (fNotB (f1 bo (fChain leD leD (fC (.int 1)) (f1 lenD (fV 3)) (fC (.int 6))))))) (gRet (fC (.bool false)))
    gNext)
    (gSeq (gFor [4, 5, 6] (f1 enumD (fV 3)) (.t [(.n 4), (.t [(.n 5), (.n 6)])]) b_is_link_1)
    (gRet (fC (.bool true))))))
noncomputable def F_is_link : List PyData → Option Sl := runD 7 1 g_is_link
theorem ok_is_link (T : Txt K mg Ad Fd) : FnOk P w K mg base CX0 1 (Ad 18) (Fd 18) ["link"] (spD K F_is_link) :=
  have nd := sc_is_link.nd
  fn_d (g := g_is_link) T.d_is_link.fn sc_is_link (fun _ _ h => h) fun cdv A outer s H E hr => by exact (ss_cons (sd_pat (p := (.t [(.n 1), (.n 2), (.n 3)])) (pd_v 0) (pt_tup rfl (pts_consP (pt_name (i := 1) nd rfl (by first | exact Or.inl rfl | exact Or.inr rfl)) (pts_consP (pt_name (i := 2) nd rfl (by first | exact Or.inl rfl | exact Or.inr rfl)) (pts_consP (pt_name (i := 3) nd rfl (by first | exact Or.inl rfl | exact Or.inr rfl)) pts_nilP)))))
    (ss_cons (sd_if (pb_w (pwb_or (pb_cmp (cmp_notin hr) (PD.top (pd_v 1)) (PD.top (pd_tup (ar_cons pd_int (ar_cons (pd_neg (PD.top pd_int)) ar_nil))))) (pwb_or (pb_not (pb_chain cmp_le cmp_le (PD.top pd_int) (PD.top (pd_v 2)) (PD.top (pd_gint rfl T.c_MOST_LINK)))) (pwb_or1 (pb_not (pb_chain cmp_le cmp_le (PD.top pd_int) (PD.top (pd_callB cd_len rfl T.z_len (by decide +kernel) (PD.top (pd_v 3)))) (PD.top (pd_gint rfl T.c_MOST_ERRORS)))))))) (ss_one (sd_ret pd_bl))
    ss_nil)
    (ss_cons (sd_for (fs := [4, 5, 6]) PassesOwn.never rfl (it_enum rfl T.z_enumerate (PD.x (pd_v 3))) (pt_tup rfl (pts_consP (pt_name (i := 4) nd rfl (by first | exact Or.inl rfl | exact Or.inr rfl)) (pts_consP (pt_tup rfl (pts_consP (pt_name (i := 5) nd rfl (by first | exact Or.inl rfl | exact Or.inr rfl)) (pts_consP (pt_name (i := 6) nd rfl (by first | exact Or.inl rfl | exact Or.inr rfl)) pts_nilP))) pts_nilP))) (ss_cons (sd_if (pb_w (pwb_or (pb_not (pb_chain cmp_le cmp_le (PD.top (pd_neg (PD.top (pd_gint rfl T.c_MOST_ERROR)))) (PD.top (pd_v 5)) (PD.top (pd_gint rfl T.c_MOST_ERROR)))) (pwb_or1 (pb_not (pb_chain cmp_le cmp_le (PD.top pd_int) (PD.top (pd_v 6)) (PD.top (pd_gint rfl T.c_MOST_COUNT))))))) (ss_one (sd_ret pd_bl))
    ss_nil)
    (ss_one (sd_if (pb_w (pwb_and (pb_cmp cmp_gt (PD.top (pd_v 4)) (PD.top pd_int)) (pwb_and1 (pb_cmp cmp_ge (PD.top (pd_ix (PD.top (pd_ix (PD.top (pd_v 3)) (PD.top (pd_sub (PD.top (pd_v 4)) (PD.top pd_int))))) (PD.top pd_int))) (PD.top (pd_v 5)))))) (ss_one (sd_ret pd_bl))
    ss_nil))))
    (ss_one (sd_ret pd_bl)))))
/-! check_chain -/
abbrev s_check_chain : Stmt := topS 19
theorem sc_check_chain : FnScope ["chain", "k", "link"] ["chain"] (defScope s_check_chain) := ⟨rfl, rfl, rfl, by decide +kernel, rfl, by decide +kernel, by decide +kernel⟩
noncomputable def b_check_chain_1 : En → Option Out := (gIf (fNotB (f1 bo (frz (f1 F_is_link (fCons (fV 2) fNil))))) (fun _ => none)
    gNext)
noncomputable def g_check_chain : En → Option Out := (gSeq (gIf (fNotB (f1 bo (fChain leD leD (fC (.int 1)) (f1 lenD (fV 0)) (fC (.int 8))))) (fun _ => none)
    gNext)
    (gFor [1, 2] (f1 enumD (fV 0)) (.t [(.n 1), (.n 2)]) b_check_chain_1))
noncomputable def F_check_chain : List PyData → Option Sl := runD 3 1 g_check_chain
theorem ok_check_chain (T : Txt K mg Ad Fd) : FnOk P w K mg base CX0 2 (Ad 19) (Fd 19) ["chain"] (spD K F_check_chain) :=
  have nd := sc_check_chain.nd
  fn_d (g := g_check_chain) T.d_check_chain.fn sc_check_chain (fun _ _ h => h) fun cdv A outer s H E hr => by exact (ss_cons (sd_if (pb_not (pb_chain cmp_le cmp_le (PD.top pd_int) (PD.top (pd_callB cd_len rfl T.z_len (by decide +kernel) (PD.top (pd_v 0)))) (PD.top (pd_gint rfl T.c_MOST_LINKS)))) (ss_one sd_never)
    ss_nil)
    (ss_one (sd_for (fs := [1, 2]) PassesOwn.never rfl (it_enum rfl T.z_enumerate (PD.x (pd_v 0))) (pt_tup rfl (pts_consP (pt_name (i := 1) nd rfl (by first | exact Or.inl rfl | exact Or.inr rfl)) (pts_consP (pt_name (i := 2) nd rfl (by first | exact Or.inl rfl | exact Or.inr rfl)) pts_nilP))) (ss_one (sd_if (pb_not (pb_val (PF.cl (pf_call (ok_is_link T) (hr.mono (by decide)) rfl T.d_is_link.at_ T.d_is_link.fn.kp T.d_is_link.bi (ar_cons (pd_v 2) ar_nil))))) (ss_one sd_never)
    ss_nil)))))
/-! ways_of -/
abbrev s_ways_of : Stmt := topS 20
theorem sc_ways_of : FnScope ["chain", "found", "sign", "size", "errors", "later", "whole", "many", "error", "count", "there"] ["chain"] (defScope s_ways_of) := ⟨rfl, rfl, rfl, by decide +kernel, rfl, by decide +kernel, by decide +kernel⟩
noncomputable def b_ways_of_1 : En → Option Out := (gSeq (gSet 10 (frz (f2 addS (fV 6) (frz (f2 mulS (fV 2) (frz (f2 addS (fV 3) (fV 8))))))))
    (gPut 5 (fV 10) (frz (f2 addS (getD2 (fVT 5) (fV 10) (fC (.int 0))) (frz (f2 mulS (fV 7) (fV 9)))))))
noncomputable def b_ways_of_2 : En → Option Out := (gFor [8, 9, 10] (f1 itemsD (fV 4)) (.t [(.n 8), (.n 9)]) b_ways_of_1)
noncomputable def b_ways_of_3 : En → Option Out := (gSeq (gSetF 5 (fun _ => some (.k [])))
    (gSeq (gForK 1 itemL [6, 7, 8, 9, 10] (.t [(.n 6), (.n 7)]) b_ways_of_2)
    (gMove 1 5)))
noncomputable def g_ways_of : En → Option Out := (gSeq (gSetF 1 (disp1 (fC (.int 0)) (fC (.int 1))))
    (gSeq (gFor [2, 3, 4, 5, 6, 7, 8, 9, 10] (f1 itemsD (fV 0)) (.t [(.n 2), (.n 3), (.n 4)]) b_ways_of_3)
    (gRetV 1)))
noncomputable def F_ways_of : List PyData → Option Sl := runD 11 1 g_ways_of
theorem ok_ways_of (T : Txt K mg Ad Fd) : FnOk P w K mg base CX0 1 (Ad 20) (Fd 20) ["chain"] (spD K F_ways_of) :=
  have nd := sc_ways_of.nd
  fn_d (g := g_ways_of) T.d_ways_of.fn sc_ways_of (fun _ _ h => h) fun cdv A outer s H E hr => by exact (ss_cons (sd_setF (i := 1) nd rfl (by first | exact Or.inl rfl | exact Or.inr rfl) (pf_disp1 pd_int pd_int))
    (ss_cons (sd_for (fs := [2, 3, 4, 5, 6, 7, 8, 9, 10]) PassesOwn.never rfl (it_seq (PD.x (pd_v 0))) (pt_tup rfl (pts_consP (pt_name (i := 2) nd rfl (by first | exact Or.inl rfl | exact Or.inr rfl)) (pts_consP (pt_name (i := 3) nd rfl (by first | exact Or.inl rfl | exact Or.inr rfl)) (pts_consP (pt_name (i := 4) nd rfl (by first | exact Or.inl rfl | exact Or.inr rfl)) pts_nilP)))) (ss_cons (sd_setF (i := 5) nd rfl (by first | exact Or.inl rfl | exact Or.inr rfl) pf_dnew)
    (ss_cons (sd_forKi (fs := [6, 7, 8, 9, 10]) 1 PassesOwn.never rfl (pt_tup rfl (pts_consP (pt_name (i := 6) nd rfl (by first | exact Or.inl rfl | exact Or.inr rfl)) (pts_consP (pt_name (i := 7) nd rfl (by first | exact Or.inl rfl | exact Or.inr rfl)) pts_nilP))) (ss_one (sd_for (fs := [8, 9, 10]) PassesOwn.never rfl (it_seq (PD.x (pd_v 4))) (pt_tup rfl (pts_consP (pt_name (i := 8) nd rfl (by first | exact Or.inl rfl | exact Or.inr rfl)) (pts_consP (pt_name (i := 9) nd rfl (by first | exact Or.inl rfl | exact Or.inr rfl)) pts_nilP))) (ss_cons (sd_set (i := 10) nd rfl (by first | exact Or.inl rfl | exact Or.inr rfl) (PF.cl (pf_add (PD.top (pd_v 6)) (PF.top (pf_mul (PD.top (pd_v 2)) (PF.top (pf_add (PD.top (pd_v 3)) (PD.top (pd_v 8)))))))))
    (ss_one (sd_put 5 hr (PD.top (pd_v 10)) (PF.cl (pf_add (PD.top (pd_get2 hr (pt_v 5) (PD.top (pd_v 10)) pd_int)) (PF.top (pf_mul (PD.top (pd_v 7)) (PD.top (pd_v 9))))))))))))
    (ss_one (sd_move 1 5 nd rfl (by first | exact Or.inl rfl | exact Or.inr rfl))))))
    (ss_one (sd_retV 1))))
/-! ways -/
abbrev s_ways : Stmt := topS 21
theorem sc_ways : FnScope ["chain"] ["chain"] (defScope s_ways) := ⟨rfl, rfl, rfl, by decide +kernel, rfl, by decide +kernel, by decide +kernel⟩
noncomputable def g_ways : En → Option Out := (gSeq (gExpr (frz (f1 F_check_chain (fCons (fV 0) fNil))))
    (gRetF (f1 F_ways_of (fCons (fV 0) fNil))))
noncomputable def F_ways : List PyData → Option Sl := runD 1 1 g_ways
theorem ok_ways (T : Txt K mg Ad Fd) : FnOk P w K mg base CX0 3 (Ad 21) (Fd 21) ["chain"] (spD K F_ways) :=
  have nd := sc_ways.nd
  fn_d (g := g_ways) T.d_ways.fn sc_ways (fun _ _ h => h) fun cdv A outer s H E hr => by exact (ss_cons (sd_expr (PF.top (pf_call (ok_check_chain T) (hr.mono (by decide)) rfl T.d_check_chain.at_ T.d_check_chain.fn.kp T.d_check_chain.bi (ar_cons (pd_v 0) ar_nil))))
    (ss_one (sd_retF (pf_call (ok_ways_of T) (hr.mono (by decide)) rfl T.d_ways_of.at_ T.d_ways_of.fn.kp T.d_ways_of.bi (ar_cons (pd_v 0) ar_nil)))))
/-! _law_fraction -/
abbrev s__law_fraction : Stmt := topS 31
theorem sc__law_fraction : FnScope ["n", "d", "one", "two"] ["n", "d"] (defScope s__law_fraction) := ⟨rfl, rfl, rfl, by decide +kernel, rfl, by decide +kernel, by decide +kernel⟩
noncomputable def g__law_fraction : En → Option Out := (gSeq (gPar 2 3 (f1 absD (fV 0)) (f1 absD (fV 1)))
    (gSeq (gWhile [] 100000 (f1 bo (f2 neD (fV 3) (fC (.int 0)))) (gPar 2 3 (fV 3) (f2 modD (f1 intD (fV 2)) (fV 3))))
    (gSeq (gIf (f1 bo (f2 ltD (fV 1) (fC (.int 0)))) (gRet (f1 tupD (fCons (f2 divD (f1 negD (fV 0)) (fV 2)) (fCons (f2 divD (f1 negD (fV 1)) (fV 2)) fNil))))
    gNext)
    (gRet (f1 tupD (fCons (f2 divD (fV 0) (fV 2)) (fCons (f2 divD (fV 1) (fV 2)) fNil)))))))
noncomputable def F__law_fraction : List PyData → Option Sl := runD 4 2 g__law_fraction
theorem ok__law_fraction (T : Txt K mg Ad Fd) : FnOk P w K mg base CX0 1 (Ad 31) (Fd 31) ["n", "d"] (spD K F__law_fraction) :=
  have nd := sc__law_fraction.nd
  fn_d (g := g__law_fraction) T.d__law_fraction.fn sc__law_fraction (fun _ _ h => h) fun cdv A outer s H E hr => by exact (ss_cons (sd_par (i := 2) (j := 3) rfl nd rfl rfl (by decide) rfl rfl (pd_callB cd_abs rfl T.z_abs (by decide +kernel) (PD.top (pd_v 0))) (pd_callB cd_abs rfl T.z_abs (by decide +kernel) (PD.top (pd_v 1))) rfl)
    (ss_cons (sd_while (fs := []) 100000 PassesOwn.never (pb_cmp (cmp_ne hr) (PD.top (pd_v 3)) (PD.top pd_int)) (ss_one (sd_par (i := 2) (j := 3) rfl nd rfl rfl (by decide) rfl rfl (pd_v 3) (pd_mod (PD.top (pd_callTy cd_int rfl T.z_int (by decide +kernel) (PD.top (pd_v 2)))) (PD.top (pd_v 3))) rfl)))
    (ss_cons (sd_if (pb_cmp cmp_lt (PD.top (pd_v 1)) (PD.top pd_int)) (ss_one (sd_ret (pd_tup (ar_cons (pd_div (PD.top (pd_neg (PD.top (pd_v 0)))) (PD.top (pd_v 2))) (ar_cons (pd_div (PD.top (pd_neg (PD.top (pd_v 1)))) (PD.top (pd_v 2))) ar_nil)))))
    ss_nil)
    (ss_one (sd_ret (pd_tup (ar_cons (pd_div (PD.top (pd_v 0)) (PD.top (pd_v 2))) (ar_cons (pd_div (PD.top (pd_v 1)) (PD.top (pd_v 2))) ar_nil))))))))
/-! _law_less -/
abbrev s__law_less : Stmt := topS 34
theorem sc__law_less : FnScope ["one", "two"] ["one", "two"] (defScope s__law_less) := ⟨rfl, rfl, rfl, by decide +kernel, rfl, by decide +kernel, by decide +kernel⟩
noncomputable def g__law_less : En → Option Out := (gRet (f2 ltD (frz (f2 mulS (f2 ixD (fV 0) (fC (.int 0))) (f2 ixD (fV 1) (fC (.int 1))))) (frz (f2 mulS (f2 ixD (fV 1) (fC (.int 0))) (f2 ixD (fV 0) (fC (.int 1)))))))
noncomputable def F__law_less : List PyData → Option Sl := runD 2 2 g__law_less
theorem ok__law_less (T : Txt K mg Ad Fd) : FnOk P w K mg base CX0 1 (Ad 34) (Fd 34) ["one", "two"] (spD K F__law_less) :=
  have nd := sc__law_less.nd
  fn_d (g := g__law_less) T.d__law_less.fn sc__law_less (fun _ _ h => h) fun cdv A outer s H E hr => by exact (ss_one (sd_ret (pd_cmp cmp_lt (PF.top (pf_mul (PD.top (pd_ix (PD.top (pd_v 0)) (PD.top pd_int))) (PD.top (pd_ix (PD.top (pd_v 1)) (PD.top pd_int))))) (PF.top (pf_mul (PD.top (pd_ix (PD.top (pd_v 1)) (PD.top pd_int))) (PD.top (pd_ix (PD.top (pd_v 0)) (PD.top pd_int))))))))
/-! _law_plus -/
abbrev s__law_plus : Stmt := topS 32
theorem sc__law_plus : FnScope ["one", "two"] ["one", "two"] (defScope s__law_plus) := ⟨rfl, rfl, rfl, by decide +kernel, rfl, by decide +kernel, by decide +kernel⟩
noncomputable def g__law_plus : En → Option Out := (gRetF (f1 F__law_fraction (fCons (frz (f2 addS (frz (f2 mulS (f2 ixD (fV 0) (fC (.int 0))) (f2 ixD (fV 1) (fC (.int 1))))) (frz (f2 mulS (f2 ixD (fV 1) (fC (.int 0))) (f2 ixD (fV 0) (fC (.int 1))))))) (fCons (frz (f2 mulS (f2 ixD (fV 0) (fC (.int 1))) (f2 ixD (fV 1) (fC (.int 1))))) fNil))))
noncomputable def F__law_plus : List PyData → Option Sl := runD 2 2 g__law_plus
theorem ok__law_plus (T : Txt K mg Ad Fd) : FnOk P w K mg base CX0 2 (Ad 32) (Fd 32) ["one", "two"] (spD K F__law_plus) :=
  have nd := sc__law_plus.nd
  fn_d (g := g__law_plus) T.d__law_plus.fn sc__law_plus (fun _ _ h => h) fun cdv A outer s H E hr => by exact (ss_one (sd_retF (pf_call (ok__law_fraction T) (hr.mono (by decide)) rfl T.d__law_fraction.at_ T.d__law_fraction.fn.kp T.d__law_fraction.bi (ar_cons (PF.cl (pf_add (PF.top (pf_mul (PD.top (pd_ix (PD.top (pd_v 0)) (PD.top pd_int))) (PD.top (pd_ix (PD.top (pd_v 1)) (PD.top pd_int))))) (PF.top (pf_mul (PD.top (pd_ix (PD.top (pd_v 1)) (PD.top pd_int))) (PD.top (pd_ix (PD.top (pd_v 0)) (PD.top pd_int))))))) (ar_cons (PF.cl (pf_mul (PD.top (pd_ix (PD.top (pd_v 0)) (PD.top pd_int))) (PD.top (pd_ix (PD.top (pd_v 1)) (PD.top pd_int))))) ar_nil)))))
/-! fraction -/
abbrev s_fraction : Stmt := topS 7
theorem sc_fraction : FnScope ["number", "by", "common"] ["number", "by"] (defScope s_fraction) := ⟨rfl, rfl, rfl, by decide +kernel, rfl, by decide +kernel, by decide +kernel⟩
noncomputable def g_fraction : En → Option Out := (gSeq (gIf (f1 bo (f2 ltD (fV 1) (fC (.int 0)))) (gPar 0 1 (f1 negD (fV 0)) (f1 negD (fV 1)))
    gNext)
    (gSeq (gSet 2 (f2 gcdD (fV 0) (fV 1)))
    (gRet (f1 tupD (fCons (f2 divD (fV 0) (fV 2)) (fCons (f2 divD (fV 1) (fV 2)) fNil))))))
noncomputable def F_fraction : List PyData → Option Sl := runD 3 2 g_fraction
theorem ok_fraction (T : Txt K mg Ad Fd) : FnOk P w K mg base CX0 1 (Ad 7) (Fd 7) ["number", "by"] (spD K F_fraction) :=
  have nd := sc_fraction.nd
  fn_d (g := g_fraction) T.d_fraction.fn sc_fraction (fun _ _ h => h) fun cdv A outer s H E hr => by exact (ss_cons (sd_if (pb_cmp cmp_lt (PD.top (pd_v 1)) (PD.top pd_int)) (ss_one (sd_par (i := 0) (j := 1) rfl nd rfl rfl (by decide) rfl rfl (pd_neg (PD.top (pd_v 0))) (pd_neg (PD.top (pd_v 1))) rfl))
    ss_nil)
    (ss_cons (sd_set (i := 2) nd rfl (by first | exact Or.inl rfl | exact Or.inr rfl) (pd_gcd rfl T.g_gcd (PD.top (pd_v 0)) (PD.top (pd_v 1))))
    (ss_one (sd_ret (pd_tup (ar_cons (pd_div (PD.top (pd_v 0)) (PD.top (pd_v 2))) (ar_cons (pd_div (PD.top (pd_v 1)) (PD.top (pd_v 2))) ar_nil)))))))
/-! share -/
abbrev s_share : Stmt := topS 27
theorem sc_share : FnScope ["chain", "low", "high", "found", "whole", "many"] ["chain", "low", "high"] (defScope s_share) := ⟨rfl, rfl, rfl, by decide +kernel, rfl, by decide +kernel, by decide +kernel⟩
noncomputable def g_share : En → Option Out := (gSeq (gExpr (frz (f1 F_check_chain (fCons (fV 0) fNil))))
    (gSeq (gIf (f1 bo (f2 gtD (fV 1) (fV 2))) (fun _ => none)
    gNext)
    (gSeq (gSet 3 (frz (f1 F_ways_of (fCons (fV 0) fNil))))
    (gRetF (f1 F_fraction (fCons (f1 sumD (frz (fLc [4, 5] (f1 itemsK (fV 3)) (.t [(.n 4), (.n 5)]) (f1 bo (fChain leD leD (fV 1) (fV 4) (fV 2))) (fV 5)))) (fCons (f1 sumValsD (fV 3)) fNil)))))))
noncomputable def F_share : List PyData → Option Sl := runD 6 3 g_share
theorem ok_share (T : Txt K mg Ad Fd) : FnOk P w K mg base CX0 3 (Ad 27) (Fd 27) ["chain", "low", "high"] (spD K F_share) :=
  have nd := sc_share.nd
  fn_d (g := g_share) T.d_share.fn sc_share (fun _ _ h => h) fun cdv A outer s H E hr => by exact (ss_cons (sd_expr (PF.top (pf_call (ok_check_chain T) (hr.mono (by decide)) rfl T.d_check_chain.at_ T.d_check_chain.fn.kp T.d_check_chain.bi (ar_cons (pd_v 0) ar_nil))))
    (ss_cons (sd_if (pb_cmp cmp_gt (PD.top (pd_v 1)) (PD.top (pd_v 2))) (ss_one sd_never)
    ss_nil)
    (ss_cons (sd_set (i := 3) nd rfl (by first | exact Or.inl rfl | exact Or.inr rfl) (PF.cl (pf_call (ok_ways_of T) (hr.mono (by decide)) rfl T.d_ways_of.at_ T.d_ways_of.fn.kp T.d_ways_of.bi (ar_cons (pd_v 0) ar_nil))))
    (ss_one (sd_retF (pf_call (ok_fraction T) (hr.mono (by decide)) rfl T.d_fraction.at_ T.d_fraction.fn.kp T.d_fraction.bi (ar_cons (pd_callB (cd_sum rfl) rfl T.z_sum (by decide +kernel) (PF.top (pf_lc (own := [("whole", 4), ("many", 5)]) rfl nd (it_items (pd_v 3)) (blkOk_by (by kernel_rfl)) (by decide) (fun _ _ _ _ _ => (pt_tup rfl (pts_consP (pt_name (i := 4) nd rfl (by first | exact Or.inl rfl | exact Or.inr rfl)) (pts_consP (pt_name (i := 5) nd rfl (by first | exact Or.inl rfl | exact Or.inr rfl)) pts_nilP)))) (fun _ _ _ _ _ => (ptb_one (pb_chain cmp_le cmp_le (PD.top (pd_v 1)) (PD.top (pd_v 4)) (PD.top (pd_v 2))))) (fun _ _ _ _ _ => (pd_v 5))))) (ar_cons (pd_sumVals rfl rfl T.z_sum (PD.top (pd_v 3))) ar_nil))))))))
/-! plus -/
abbrev s_plus : Stmt := topS 8
theorem sc_plus : FnScope ["one", "two"] ["one", "two"] (defScope s_plus) := ⟨rfl, rfl, rfl, by decide +kernel, rfl, by decide +kernel, by decide +kernel⟩
noncomputable def g_plus : En → Option Out := (gRetF (f1 F_fraction (fCons (frz (f2 addS (frz (f2 mulS (f2 ixD (fV 0) (fC (.int 0))) (f2 ixD (fV 1) (fC (.int 1))))) (frz (f2 mulS (f2 ixD (fV 1) (fC (.int 0))) (f2 ixD (fV 0) (fC (.int 1))))))) (fCons (frz (f2 mulS (f2 ixD (fV 0) (fC (.int 1))) (f2 ixD (fV 1) (fC (.int 1))))) fNil))))
noncomputable def F_plus : List PyData → Option Sl := runD 2 2 g_plus
theorem ok_plus (T : Txt K mg Ad Fd) : FnOk P w K mg base CX0 2 (Ad 8) (Fd 8) ["one", "two"] (spD K F_plus) :=
  have nd := sc_plus.nd
  fn_d (g := g_plus) T.d_plus.fn sc_plus (fun _ _ h => h) fun cdv A outer s H E hr => by exact (ss_one (sd_retF (pf_call (ok_fraction T) (hr.mono (by decide)) rfl T.d_fraction.at_ T.d_fraction.fn.kp T.d_fraction.bi (ar_cons (PF.cl (pf_add (PF.top (pf_mul (PD.top (pd_ix (PD.top (pd_v 0)) (PD.top pd_int))) (PD.top (pd_ix (PD.top (pd_v 1)) (PD.top pd_int))))) (PF.top (pf_mul (PD.top (pd_ix (PD.top (pd_v 1)) (PD.top pd_int))) (PD.top (pd_ix (PD.top (pd_v 0)) (PD.top pd_int))))))) (ar_cons (PF.cl (pf_mul (PD.top (pd_ix (PD.top (pd_v 0)) (PD.top pd_int))) (PD.top (pd_ix (PD.top (pd_v 1)) (PD.top pd_int))))) ar_nil)))))
/-! total -/
abbrev s_total : Stmt := topS 11
theorem sc_total : FnScope ["told", "found", "one"] ["told"] (defScope s_total) := ⟨rfl, rfl, rfl, by decide +kernel, rfl, by decide +kernel, by decide +kernel⟩
noncomputable def b_total_1 : En → Option Out := (gSet 1 (frz (f1 F_plus (fCons (fV 1) (fCons (fV 2) fNil)))))
noncomputable def g_total : En → Option Out := (gSeq (gSet 1 (f1 tupD (fCons (fC (.int 0)) (fCons (fC (.int 1)) fNil))))
    (gSeq (gFor [2] (f1 itemsD (fV 0)) (.n 2) b_total_1)
    (gRet (fV 1))))
noncomputable def F_total : List PyData → Option Sl := runD 3 1 g_total
theorem ok_total (T : Txt K mg Ad Fd) : FnOk P w K mg base CX0 3 (Ad 11) (Fd 11) ["told"] (spD K F_total) :=
  have nd := sc_total.nd
  fn_d (g := g_total) T.d_total.fn sc_total (fun _ _ h => h) fun cdv A outer s H E hr => by exact (ss_cons (sd_set (i := 1) nd rfl (by first | exact Or.inl rfl | exact Or.inr rfl) (pd_tup (ar_cons pd_int (ar_cons pd_int ar_nil))))
    (ss_cons (sd_for (fs := [2]) PassesOwn.never rfl (it_seq (PD.x (pd_v 0))) (pt_name (i := 2) nd rfl (by first | exact Or.inl rfl | exact Or.inr rfl)) (ss_one (sd_set (i := 1) nd rfl (by first | exact Or.inl rfl | exact Or.inr rfl) (PF.cl (pf_call (ok_plus T) (hr.mono (by decide)) rfl T.d_plus.at_ T.d_plus.fn.kp T.d_plus.bi (ar_cons (pd_v 1) (ar_cons (pd_v 2) ar_nil)))))))
    (ss_one (sd_ret (pd_v 1)))))
/-! mean_error -/
abbrev s_mean_error : Stmt := topS 23
theorem sc_mean_error : FnScope ["errors", "error", "count", "_"] ["errors"] (defScope s_mean_error) := ⟨rfl, rfl, rfl, by decide +kernel, rfl, by decide +kernel, by decide +kernel⟩
noncomputable def g_mean_error : En → Option Out := (gRetF (f1 F_fraction (fCons (f1 sumD (frz (fLc [1, 2] (f1 itemsD (fV 0)) (.t [(.n 1), (.n 2)]) fYes (frz (f2 mulS (fV 1) (fV 2)))))) (fCons (f1 sumD (frz (fLc [3, 2] (f1 itemsD (fV 0)) (.t [(.n 3), (.n 2)]) fYes (fV 2)))) fNil))))
noncomputable def F_mean_error : List PyData → Option Sl := runD 4 1 g_mean_error
theorem ok_mean_error (T : Txt K mg Ad Fd) : FnOk P w K mg base CX0 2 (Ad 23) (Fd 23) ["errors"] (spD K F_mean_error) :=
  have nd := sc_mean_error.nd
  fn_d (g := g_mean_error) T.d_mean_error.fn sc_mean_error (fun _ _ h => h) fun cdv A outer s H E hr => by exact (ss_one (sd_retF (pf_call (ok_fraction T) (hr.mono (by decide)) rfl T.d_fraction.at_ T.d_fraction.fn.kp T.d_fraction.bi (ar_cons (pd_callB (cd_sum rfl) rfl T.z_sum (by decide +kernel) (PF.top (pf_lc (own := [("error", 1), ("count", 2)]) rfl nd (it_seq (PTp.x (PD.top (pd_v 0)))) (blkOk_by (by kernel_rfl)) (by decide) (fun _ _ _ _ _ => (pt_tup rfl (pts_consP (pt_name (i := 1) nd rfl (by first | exact Or.inl rfl | exact Or.inr rfl)) (pts_consP (pt_name (i := 2) nd rfl (by first | exact Or.inl rfl | exact Or.inr rfl)) pts_nilP)))) (fun _ _ _ _ _ => ptb_nil) (fun _ _ _ _ _ => (PF.cl (pf_mul (PD.top (pd_v 1)) (PD.top (pd_v 2)))))))) (ar_cons (pd_callB (cd_sum rfl) rfl T.z_sum (by decide +kernel) (PF.top (pf_lc (own := [("_", 3), ("count", 2)]) rfl nd (it_seq (PTp.x (PD.top (pd_v 0)))) (blkOk_by (by kernel_rfl)) (by decide) (fun _ _ _ _ _ => (pt_tup rfl (pts_consP (pt_name (i := 3) nd rfl (by first | exact Or.inl rfl | exact Or.inr rfl)) (pts_consP (pt_name (i := 2) nd rfl (by first | exact Or.inl rfl | exact Or.inr rfl)) pts_nilP)))) (fun _ _ _ _ _ => ptb_nil) (fun _ _ _ _ _ => (pd_v 2))))) ar_nil)))))
/-! minus -/
abbrev s_minus : Stmt := topS 9
theorem sc_minus : FnScope ["one", "two"] ["one", "two"] (defScope s_minus) := ⟨rfl, rfl, rfl, by decide +kernel, rfl, by decide +kernel, by decide +kernel⟩
noncomputable def g_minus : En → Option Out := (gRetF (f1 F_fraction (fCons (f2 subD (frz (f2 mulS (f2 ixD (fV 0) (fC (.int 0))) (f2 ixD (fV 1) (fC (.int 1))))) (frz (f2 mulS (f2 ixD (fV 1) (fC (.int 0))) (f2 ixD (fV 0) (fC (.int 1)))))) (fCons (frz (f2 mulS (f2 ixD (fV 0) (fC (.int 1))) (f2 ixD (fV 1) (fC (.int 1))))) fNil))))
noncomputable def F_minus : List PyData → Option Sl := runD 2 2 g_minus
theorem ok_minus (T : Txt K mg Ad Fd) : FnOk P w K mg base CX0 2 (Ad 9) (Fd 9) ["one", "two"] (spD K F_minus) :=
  have nd := sc_minus.nd
  fn_d (g := g_minus) T.d_minus.fn sc_minus (fun _ _ h => h) fun cdv A outer s H E hr => by exact (ss_one (sd_retF (pf_call (ok_fraction T) (hr.mono (by decide)) rfl T.d_fraction.at_ T.d_fraction.fn.kp T.d_fraction.bi (ar_cons (pd_sub (PF.top (pf_mul (PD.top (pd_ix (PD.top (pd_v 0)) (PD.top pd_int))) (PD.top (pd_ix (PD.top (pd_v 1)) (PD.top pd_int))))) (PF.top (pf_mul (PD.top (pd_ix (PD.top (pd_v 1)) (PD.top pd_int))) (PD.top (pd_ix (PD.top (pd_v 0)) (PD.top pd_int)))))) (ar_cons (PF.cl (pf_mul (PD.top (pd_ix (PD.top (pd_v 0)) (PD.top pd_int))) (PD.top (pd_ix (PD.top (pd_v 1)) (PD.top pd_int))))) ar_nil)))))
/-! times -/
abbrev s_times : Stmt := topS 10
theorem sc_times : FnScope ["one", "two"] ["one", "two"] (defScope s_times) := ⟨rfl, rfl, rfl, by decide +kernel, rfl, by decide +kernel, by decide +kernel⟩
noncomputable def g_times : En → Option Out := (gRetF (f1 F_fraction (fCons (frz (f2 mulS (f2 ixD (fV 0) (fC (.int 0))) (f2 ixD (fV 1) (fC (.int 0))))) (fCons (frz (f2 mulS (f2 ixD (fV 0) (fC (.int 1))) (f2 ixD (fV 1) (fC (.int 1))))) fNil))))
noncomputable def F_times : List PyData → Option Sl := runD 2 2 g_times
theorem ok_times (T : Txt K mg Ad Fd) : FnOk P w K mg base CX0 2 (Ad 10) (Fd 10) ["one", "two"] (spD K F_times) :=
  have nd := sc_times.nd
  fn_d (g := g_times) T.d_times.fn sc_times (fun _ _ h => h) fun cdv A outer s H E hr => by exact (ss_one (sd_retF (pf_call (ok_fraction T) (hr.mono (by decide)) rfl T.d_fraction.at_ T.d_fraction.fn.kp T.d_fraction.bi (ar_cons (PF.cl (pf_mul (PD.top (pd_ix (PD.top (pd_v 0)) (PD.top pd_int))) (PD.top (pd_ix (PD.top (pd_v 1)) (PD.top pd_int))))) (ar_cons (PF.cl (pf_mul (PD.top (pd_ix (PD.top (pd_v 0)) (PD.top pd_int))) (PD.top (pd_ix (PD.top (pd_v 1)) (PD.top pd_int))))) ar_nil)))))
/-! spread_of -/
abbrev s_spread_of : Stmt := topS 25
theorem sc_spread_of : FnScope ["errors", "middle", "many", "found", "error", "count", "apart", "_"] ["errors"] (defScope s_spread_of) := ⟨rfl, rfl, rfl, by decide +kernel, rfl, by decide +kernel, by decide +kernel⟩
noncomputable def b_spread_of_1 : En → Option Out := (gSeq (gSet 6 (frz (f1 F_minus (fCons (f1 tupD (fCons (fV 4) (fCons (fC (.int 1)) fNil))) (fCons (fV 1) fNil)))))
    (gOp1 3 appU (frz (f1 F_times (fCons (frz (f1 F_fraction (fCons (fV 5) (fCons (fV 2) fNil)))) (fCons (frz (f1 F_times (fCons (fV 6) (fCons (fV 6) fNil)))) fNil))))))
noncomputable def g_spread_of : En → Option Out := (gSeq (gSet 1 (frz (f1 F_mean_error (fCons (fV 0) fNil))))
    (gSeq (gSet 2 (f1 sumD (frz (fLc [7, 5] (f1 itemsD (fV 0)) (.t [(.n 7), (.n 5)]) fYes (fV 5)))))
    (gSeq (gSetF 3 (f1 lstS fNil))
    (gSeq (gFor [4, 5, 6] (f1 itemsD (fV 0)) (.t [(.n 4), (.n 5)]) b_spread_of_1)
    (gRel 3 (gRetF (f1 F_total (fCons (fV 3) fNil))))))))
noncomputable def F_spread_of : List PyData → Option Sl := runD 8 1 g_spread_of
theorem ok_spread_of (T : Txt K mg Ad Fd) : FnOk P w K mg base CX0 4 (Ad 25) (Fd 25) ["errors"] (spD K F_spread_of) :=
  have nd := sc_spread_of.nd
  fn_d (g := g_spread_of) T.d_spread_of.fn sc_spread_of (fun _ _ h => h) fun cdv A outer s H E hr => by exact (ss_cons (sd_set (i := 1) nd rfl (by first | exact Or.inl rfl | exact Or.inr rfl) (PF.cl (pf_call (ok_mean_error T) (hr.mono (by decide)) rfl T.d_mean_error.at_ T.d_mean_error.fn.kp T.d_mean_error.bi (ar_cons (pd_v 0) ar_nil))))
    (ss_cons (sd_set (i := 2) nd rfl (by first | exact Or.inl rfl | exact Or.inr rfl) (pd_callB (cd_sum rfl) rfl T.z_sum (by decide +kernel) (PF.top (pf_lc (own := [("_", 7), ("count", 5)]) rfl nd (it_seq (PTp.x (PD.top (pd_v 0)))) (blkOk_by (by kernel_rfl)) (by decide) (fun _ _ _ _ _ => (pt_tup rfl (pts_consP (pt_name (i := 7) nd rfl (by first | exact Or.inl rfl | exact Or.inr rfl)) (pts_consP (pt_name (i := 5) nd rfl (by first | exact Or.inl rfl | exact Or.inr rfl)) pts_nilP)))) (fun _ _ _ _ _ => ptb_nil) (fun _ _ _ _ _ => (pd_v 5))))))
    (ss_cons (sd_setF (i := 3) nd rfl (by first | exact Or.inl rfl | exact Or.inr rfl) (pf_lst ar_nil))
    (ss_cons (sd_for (fs := [4, 5, 6]) PassesOwn.never rfl (it_seq (PD.x (pd_v 0))) (pt_tup rfl (pts_consP (pt_name (i := 4) nd rfl (by first | exact Or.inl rfl | exact Or.inr rfl)) (pts_consP (pt_name (i := 5) nd rfl (by first | exact Or.inl rfl | exact Or.inr rfl)) pts_nilP))) (ss_cons (sd_set (i := 6) nd rfl (by first | exact Or.inl rfl | exact Or.inr rfl) (PF.cl (pf_call (ok_minus T) (hr.mono (by decide)) rfl T.d_minus.at_ T.d_minus.fn.kp T.d_minus.bi (ar_cons (pd_tup (ar_cons (pd_v 4) (ar_cons pd_int ar_nil))) (ar_cons (pd_v 1) ar_nil)))))
    (ss_one (sd_append 3 (PF.cl (pf_call (ok_times T) (hr.mono (by decide)) rfl T.d_times.at_ T.d_times.fn.kp T.d_times.bi (ar_cons (PF.cl (pf_call (ok_fraction T) (hr.mono (by decide)) rfl T.d_fraction.at_ T.d_fraction.fn.kp T.d_fraction.bi (ar_cons (pd_v 5) (ar_cons (pd_v 2) ar_nil)))) (ar_cons (PF.cl (pf_call (ok_times T) (hr.mono (by decide)) rfl T.d_times.at_ T.d_times.fn.kp T.d_times.bi (ar_cons (pd_v 6) (ar_cons (pd_v 6) ar_nil)))) ar_nil))))))))
    (ss_one (sd_rel 3 (sd_retF (pf_call (ok_total T) (hr.mono (by decide)) rfl T.d_total.at_ T.d_total.fn.kp T.d_total.bi (ar_cons (pd_v 3) ar_nil)))))))))
/-! spread -/
abbrev s_spread : Stmt := topS 26
theorem sc_spread : FnScope ["chain", "_", "errors"] ["chain"] (defScope s_spread) := ⟨rfl, rfl, rfl, by decide +kernel, rfl, by decide +kernel, by decide +kernel⟩
noncomputable def g_spread : En → Option Out := (gSeq (gExpr (frz (f1 F_check_chain (fCons (fV 0) fNil))))
    (gRetF (f1 F_total (fCons (frz (fLc [1, 2] (f1 itemsD (fV 0)) (.t [(.n 1), (.n 1), (.n 2)]) fYes (frz (f1 F_spread_of (fCons (fV 2) fNil))))) fNil))))
noncomputable def F_spread : List PyData → Option Sl := runD 3 1 g_spread
theorem ok_spread (T : Txt K mg Ad Fd) : FnOk P w K mg base CX0 5 (Ad 26) (Fd 26) ["chain"] (spD K F_spread) :=
  have nd := sc_spread.nd
  fn_d (g := g_spread) T.d_spread.fn sc_spread (fun _ _ h => h) fun cdv A outer s H E hr => by exact (ss_cons (sd_expr (PF.top (pf_call (ok_check_chain T) (hr.mono (by decide)) rfl T.d_check_chain.at_ T.d_check_chain.fn.kp T.d_check_chain.bi (ar_cons (pd_v 0) ar_nil))))
    (ss_one (sd_retF (pf_call (ok_total T) (hr.mono (by decide)) rfl T.d_total.at_ T.d_total.fn.kp T.d_total.bi (ar_cons (PF.cl (pf_lc (own := [("_", 1), ("errors", 2)]) rfl nd (it_seq (PTp.x (PD.top (pd_v 0)))) (blkOk_by (by kernel_rfl)) (by decide) (fun _ _ _ _ _ => (pt_tup rfl (pts_consP (pt_name (i := 1) nd rfl (by first | exact Or.inl rfl | exact Or.inr rfl)) (pts_consP (pt_name (i := 1) nd rfl (by first | exact Or.inl rfl | exact Or.inr rfl)) (pts_consP (pt_name (i := 2) nd rfl (by first | exact Or.inl rfl | exact Or.inr rfl)) pts_nilP))))) (fun _ _ _ _ _ => ptb_nil) (fun _ _ _ _ _ => (PF.cl (pf_call (ok_spread_of T) (hr.mono (by decide)) rfl T.d_spread_of.at_ T.d_spread_of.fn.kp T.d_spread_of.bi (ar_cons (pd_v 2) ar_nil)))))) ar_nil)))))
/-! _law_times -/
abbrev s__law_times : Stmt := topS 33
theorem sc__law_times : FnScope ["one", "two"] ["one", "two"] (defScope s__law_times) := ⟨rfl, rfl, rfl, by decide +kernel, rfl, by decide +kernel, by decide +kernel⟩
noncomputable def g__law_times : En → Option Out := (gRetF (f1 F__law_fraction (fCons (frz (f2 mulS (f2 ixD (fV 0) (fC (.int 0))) (f2 ixD (fV 1) (fC (.int 0))))) (fCons (frz (f2 mulS (f2 ixD (fV 0) (fC (.int 1))) (f2 ixD (fV 1) (fC (.int 1))))) fNil))))
noncomputable def F__law_times : List PyData → Option Sl := runD 2 2 g__law_times
theorem ok__law_times (T : Txt K mg Ad Fd) : FnOk P w K mg base CX0 2 (Ad 33) (Fd 33) ["one", "two"] (spD K F__law_times) :=
  have nd := sc__law_times.nd
  fn_d (g := g__law_times) T.d__law_times.fn sc__law_times (fun _ _ h => h) fun cdv A outer s H E hr => by exact (ss_one (sd_retF (pf_call (ok__law_fraction T) (hr.mono (by decide)) rfl T.d__law_fraction.at_ T.d__law_fraction.fn.kp T.d__law_fraction.bi (ar_cons (PF.cl (pf_mul (PD.top (pd_ix (PD.top (pd_v 0)) (PD.top pd_int))) (PD.top (pd_ix (PD.top (pd_v 1)) (PD.top pd_int))))) (ar_cons (PF.cl (pf_mul (PD.top (pd_ix (PD.top (pd_v 0)) (PD.top pd_int))) (PD.top (pd_ix (PD.top (pd_v 1)) (PD.top pd_int))))) ar_nil)))))
/-! mean -/
abbrev s_mean : Stmt := topS 24
theorem sc_mean : FnScope ["chain", "sign", "size", "errors"] ["chain"] (defScope s_mean) := ⟨rfl, rfl, rfl, by decide +kernel, rfl, by decide +kernel, by decide +kernel⟩
noncomputable def b_mean_1 : En → Option PyData := (frz (f1 F_times (fCons (f1 tupD (fCons (fV 1) (fCons (fC (.int 1)) fNil))) (fCons (frz (f1 F_plus (fCons (f1 tupD (fCons (fV 2) (fCons (fC (.int 1)) fNil))) (fCons (frz (f1 F_mean_error (fCons (fV 3) fNil))) fNil)))) fNil))))
noncomputable def g_mean : En → Option Out := (gSeq (gExpr (frz (f1 F_check_chain (fCons (fV 0) fNil))))
    (gRetF (f1 F_total (fCons (frz (fLc [1, 2, 3] (f1 itemsD (fV 0)) (.t [(.n 1), (.n 2), (.n 3)]) fYes b_mean_1)) fNil))))
noncomputable def F_mean : List PyData → Option Sl := runD 4 1 g_mean
theorem ok_mean (T : Txt K mg Ad Fd) : FnOk P w K mg base CX0 4 (Ad 24) (Fd 24) ["chain"] (spD K F_mean) :=
  have nd := sc_mean.nd
  fn_d (g := g_mean) T.d_mean.fn sc_mean (fun _ _ h => h) fun cdv A outer s H E hr => by exact (ss_cons (sd_expr (PF.top (pf_call (ok_check_chain T) (hr.mono (by decide)) rfl T.d_check_chain.at_ T.d_check_chain.fn.kp T.d_check_chain.bi (ar_cons (pd_v 0) ar_nil))))
    (ss_one (sd_retF (pf_call (ok_total T) (hr.mono (by decide)) rfl T.d_total.at_ T.d_total.fn.kp T.d_total.bi (ar_cons (PF.cl (pf_lc (own := [("sign", 1), ("size", 2), ("errors", 3)]) rfl nd (it_seq (PTp.x (PD.top (pd_v 0)))) (blkOk_by (by kernel_rfl)) (by decide) (fun _ _ _ _ _ => (pt_tup rfl (pts_consP (pt_name (i := 1) nd rfl (by first | exact Or.inl rfl | exact Or.inr rfl)) (pts_consP (pt_name (i := 2) nd rfl (by first | exact Or.inl rfl | exact Or.inr rfl)) (pts_consP (pt_name (i := 3) nd rfl (by first | exact Or.inl rfl | exact Or.inr rfl)) pts_nilP))))) (fun _ _ _ _ _ => ptb_nil) (fun _ _ _ _ _ => (PF.cl (pf_call (ok_times T) (hr.mono (by decide)) rfl T.d_times.at_ T.d_times.fn.kp T.d_times.bi (ar_cons (pd_tup (ar_cons (pd_v 1) (ar_cons pd_int ar_nil))) (ar_cons (PF.cl (pf_call (ok_plus T) (hr.mono (by decide)) rfl T.d_plus.at_ T.d_plus.fn.kp T.d_plus.bi (ar_cons (pd_tup (ar_cons (pd_v 2) (ar_cons pd_int ar_nil))) (ar_cons (PF.cl (pf_call (ok_mean_error T) (hr.mono (by decide)) rfl T.d_mean_error.at_ T.d_mean_error.fn.kp T.d_mean_error.bi (ar_cons (pd_v 3) ar_nil))) ar_nil)))) ar_nil))))))) ar_nil)))))
/-! _law_added -/
abbrev s__law_added : Stmt := topS 35
theorem sc__law_added : FnScope ["told", "found", "one"] ["told"] (defScope s__law_added) := ⟨rfl, rfl, rfl, by decide +kernel, rfl, by decide +kernel, by decide +kernel⟩
noncomputable def b__law_added_1 : En → Option Out := (gSet 1 (frz (f1 F__law_plus (fCons (fV 1) (fCons (fV 2) fNil)))))
noncomputable def g__law_added : En → Option Out := (gSeq (gSet 1 (f1 tupD (fCons (fC (.int 0)) (fCons (fC (.int 1)) fNil))))
    (gSeq (gFor [2] (f1 itemsD (fV 0)) (.n 2) b__law_added_1)
    (gRet (fV 1))))
noncomputable def F__law_added : List PyData → Option Sl := runD 3 1 g__law_added
theorem ok__law_added (T : Txt K mg Ad Fd) : FnOk P w K mg base CX0 3 (Ad 35) (Fd 35) ["told"] (spD K F__law_added) :=
  have nd := sc__law_added.nd
  fn_d (g := g__law_added) T.d__law_added.fn sc__law_added (fun _ _ h => h) fun cdv A outer s H E hr => by exact (ss_cons (sd_set (i := 1) nd rfl (by first | exact Or.inl rfl | exact Or.inr rfl) (pd_tup (ar_cons pd_int (ar_cons pd_int ar_nil))))
    (ss_cons (sd_for (fs := [2]) PassesOwn.never rfl (it_seq (PD.x (pd_v 0))) (pt_name (i := 2) nd rfl (by first | exact Or.inl rfl | exact Or.inr rfl)) (ss_one (sd_set (i := 1) nd rfl (by first | exact Or.inl rfl | exact Or.inr rfl) (PF.cl (pf_call (ok__law_plus T) (hr.mono (by decide)) rfl T.d__law_plus.at_ T.d__law_plus.fn.kp T.d__law_plus.bi (ar_cons (pd_v 1) (ar_cons (pd_v 2) ar_nil)))))))
    (ss_one (sd_ret (pd_v 1)))))
/-! ends -/
abbrev s_ends : Stmt := topS 22
theorem sc_ends : FnScope ["chain", "lows", "highs", "sign", "size", "errors"] ["chain"] (defScope s_ends) := ⟨rfl, rfl, rfl, by decide +kernel, rfl, by decide +kernel, by decide +kernel⟩
noncomputable def b_ends_1 : En → Option PyData := (f2 minD2 (frz (f2 mulS (fV 3) (frz (f2 addS (fV 4) (f2 ixD (f2 ixD (fV 5) (fC (.int 0))) (fC (.int 0))))))) (frz (f2 mulS (fV 3) (frz (f2 addS (fV 4) (f2 ixD (f2 ixD (fV 5) (f1 negD (fC (.int 1)))) (fC (.int 0))))))))
noncomputable def b_ends_2 : En → Option PyData := (f2 maxD2 (frz (f2 mulS (fV 3) (frz (f2 addS (fV 4) (f2 ixD (f2 ixD (fV 5) (fC (.int 0))) (fC (.int 0))))))) (frz (f2 mulS (fV 3) (frz (f2 addS (fV 4) (f2 ixD (f2 ixD (fV 5) (f1 negD (fC (.int 1)))) (fC (.int 0))))))))
noncomputable def g_ends : En → Option Out := (gSeq (gExpr (frz (f1 F_check_chain (fCons (fV 0) fNil))))
    (gSeq (gSetL 1 (fLc [3, 4, 5] (f1 itemsD (fV 0)) (.t [(.n 3), (.n 4), (.n 5)]) fYes b_ends_1))
    (gSeq (gSetL 2 (fLc [3, 4, 5] (f1 itemsD (fV 0)) (.t [(.n 3), (.n 4), (.n 5)]) fYes b_ends_2))
    (gRet (f1 tupD (fCons (f1 sumD (fV 1)) (fCons (f1 sumD (fV 2)) fNil)))))))
noncomputable def F_ends : List PyData → Option Sl := runD 6 1 g_ends
theorem ok_ends (T : Txt K mg Ad Fd) : FnOk P w K mg base CX0 3 (Ad 22) (Fd 22) ["chain"] (spD K F_ends) :=
  have nd := sc_ends.nd
  fn_d (g := g_ends) T.d_ends.fn sc_ends (fun _ _ h => h) fun cdv A outer s H E hr => by exact (ss_cons (sd_expr (PF.top (pf_call (ok_check_chain T) (hr.mono (by decide)) rfl T.d_check_chain.at_ T.d_check_chain.fn.kp T.d_check_chain.bi (ar_cons (pd_v 0) ar_nil))))
    (ss_cons (sd_setLcP (i := 1) (own := [("sign", 3), ("size", 4), ("errors", 5)]) rfl nd rfl rfl (sw_true rfl rfl rfl (by decide +kernel)) (it_seq (PTp.x (PD.top (pd_v 0)))) (blkOk_by (by kernel_rfl)) (by decide) (fun _ _ _ _ _ => (pt_tup rfl (pts_consP (pt_name (i := 3) nd rfl (by first | exact Or.inl rfl | exact Or.inr rfl)) (pts_consP (pt_name (i := 4) nd rfl (by first | exact Or.inl rfl | exact Or.inr rfl)) (pts_consP (pt_name (i := 5) nd rfl (by first | exact Or.inl rfl | exact Or.inr rfl)) pts_nilP))))) (fun _ _ _ _ _ => ptb_nil) (fun _ _ _ _ _ => (pd_callB2 (cd_min2 rfl) rfl T.z_min (by decide +kernel) (PF.top (pf_mul (PD.top (pd_v 3)) (PF.top (pf_add (PD.top (pd_v 4)) (PD.top (pd_ix (PD.top (pd_ix (PD.top (pd_v 5)) (PD.top pd_int))) (PD.top pd_int))))))) (PF.top (pf_mul (PD.top (pd_v 3)) (PF.top (pf_add (PD.top (pd_v 4)) (PD.top (pd_ix (PD.top (pd_ix (PD.top (pd_v 5)) (PD.top (pd_neg (PD.top pd_int))))) (PD.top pd_int))))))))))
    (ss_cons (sd_setLcP (i := 2) (own := [("sign", 3), ("size", 4), ("errors", 5)]) rfl nd rfl rfl (sw_true rfl rfl rfl (by decide +kernel)) (it_seq (PTp.x (PD.top (pd_v 0)))) (blkOk_by (by kernel_rfl)) (by decide) (fun _ _ _ _ _ => (pt_tup rfl (pts_consP (pt_name (i := 3) nd rfl (by first | exact Or.inl rfl | exact Or.inr rfl)) (pts_consP (pt_name (i := 4) nd rfl (by first | exact Or.inl rfl | exact Or.inr rfl)) (pts_consP (pt_name (i := 5) nd rfl (by first | exact Or.inl rfl | exact Or.inr rfl)) pts_nilP))))) (fun _ _ _ _ _ => ptb_nil) (fun _ _ _ _ _ => (pd_callB2 (cd_max2 rfl) rfl T.z_max (by decide +kernel) (PF.top (pf_mul (PD.top (pd_v 3)) (PF.top (pf_add (PD.top (pd_v 4)) (PD.top (pd_ix (PD.top (pd_ix (PD.top (pd_v 5)) (PD.top pd_int))) (PD.top pd_int))))))) (PF.top (pf_mul (PD.top (pd_v 3)) (PF.top (pf_add (PD.top (pd_v 4)) (PD.top (pd_ix (PD.top (pd_ix (PD.top (pd_v 5)) (PD.top (pd_neg (PD.top pd_int))))) (PD.top pd_int))))))))))
    (ss_one (sd_ret (pd_tup (ar_cons (pd_callB (cd_sum rfl) rfl T.z_sum (by decide +kernel) (PD.top (pd_v 1))) (ar_cons (pd_callB (cd_sum rfl) rfl T.z_sum (by decide +kernel) (PD.top (pd_v 2))) ar_nil))))))))
/-! law -/
abbrev s_law : Stmt := topS 38
theorem sc_law : FnScope ["script", "draws", "chain", "other", "kept", "due", "told", "every", "middle", "parts", "whole", "apart", "turn", "low", "high", "fits", "found", "far", "out", "link"] ["script"] (defScope s_law) := ⟨rfl, rfl, rfl, by decide +kernel, rfl, by decide +kernel, by decide +kernel⟩
noncomputable def b_law_1 : En → Option Out := (gSeq (gSet 11 (frz (f1 F__law_plus (fCons (f1 tupD (fCons (fV 10) (fCons (fC (.int 1)) fNil))) (fCons (f1 tupD (fCons (f1 negD (f2 ixD (fV 8) (fC (.int 0)))) (fCons (f2 ixD (fV 8) (fC (.int 1))) fNil))) fNil)))))
    (gOp1 9 appU (frz (f1 F__law_times (fCons (frz (f1 F__law_fraction (fCons (f2 getI (fV 5) (fV 10)) (fCons (fV 7) fNil)))) (fCons (frz (f1 F__law_times (fCons (fV 11) (fCons (fV 11) fNil)))) fNil))))))
noncomputable def b_law_2 : En → Option PyData := (frz (f1 F_mean (fCons (frz (f1 lstS (fCons (fV 19) fNil))) fNil)))
noncomputable def b_law_3 : En → Option PyData := (frz (f1 F_spread (fCons (frz (f1 lstS (fCons (fV 19) fNil))) fNil)))
noncomputable def b_law_4 : En → Option Out := (gSeq (gSet 13 (f2 subD (frz (f2 addS (f1 minKD (fV 5)) (frz (f1 F__law_mix (fCons (fV 1) (fCons (frz (f2 addS (fC (.int 150)) (frz (f2 mulS (fC (.int 2)) (fV 12))))) (fCons (frz (f2 addS (f2 subD (f1 maxKD (fV 5)) (f1 minKD (fV 5))) (fC (.int 3)))) fNil))))))) (fC (.int 1))))
    (gSeq (gSet 14 (frz (f2 addS (fV 13) (frz (f1 F__law_mix (fCons (fV 1) (fCons (frz (f2 addS (fC (.int 151)) (frz (f2 mulS (fC (.int 2)) (fV 12))))) (fCons (frz (f2 addS (f2 subD (f1 maxKD (fV 5)) (f1 minKD (fV 5))) (fC (.int 3)))) fNil))))))))
    (gSeq (gSet 15 (f1 sumD (frz (fLc [10] (f1 keysK (fV 5)) (.n 10) (f1 bo (fChain leD leD (fV 13) (fV 10) (fV 14))) (f2 getI (fV 5) (fV 10))))))
    (gSeq (gSet 16 (frz (f1 F_share (fCons (fV 2) (fCons (fV 13) (fCons (fV 14) fNil))))))
    (gIf (fOr (f1 bo (f2 neD (f1 reprD (fV 16)) (f1 reprD (frz (f1 F__law_fraction (fCons (fV 15) (fCons (fV 7) fNil))))))) (f1 bo (f2 neD (f2 eqD (fV 16) (f1 tupD (fCons (fC (.int 1)) (fCons (fC (.int 1)) fNil)))) (fAndV (f2 leD (fV 13) (f1 minKD (fV 5))) (f2 leD (f1 maxKD (fV 5)) (fV 14)))))) (gRet (fC (.bool false)))
    gNext)))))
noncomputable def b_law_5 : En → Option Out := (gSeq (gSet 11 (frz (f1 F__law_plus (fCons (f1 tupD (fCons (fV 10) (fCons (fC (.int 1)) fNil))) (fCons (f1 tupD (fCons (f1 negD (f2 ixD (fV 8) (fC (.int 0)))) (fCons (f2 ixD (fV 8) (fC (.int 1))) fNil))) fNil)))))
    (gIf (fNotB (f1 bo (frz (f1 F__law_less (fCons (f1 tupD (fCons (f1 absD (f2 ixD (fV 11) (fC (.int 0)))) (fCons (f2 ixD (fV 11) (fC (.int 1))) fNil))) (fCons (fV 17) fNil)))))) (gSet 18 (frz (f2 addS (fV 18) (f2 getI (fV 5) (fV 10)))))
    gNext))
noncomputable def g_law : En → Option Out := (gSeq (gSet 1 (frz (fun ρ => (scrOf 0 ρ).bind F__law_draws)))
    (gSeq (gSet 2 (frz (f1 F__law_chain (fCons (fV 1) (fCons (fC (.int 10)) (fCons (fC (.int 5)) fNil))))))
    (gSeq (gSet 3 (frz (f1 F__law_chain (fCons (fV 1) (fCons (fC (.int 80)) (fCons (fC (.int 3)) fNil))))))
    (gSeq (gSet 4 (f1 reprD (f1 tupD (fCons (fV 2) (fCons (fV 3) fNil)))))
    (gSeq (gSet 5 (frz (f1 F__law_ways (fCons (fV 2) fNil))))
    (gSeq (gSetF 6 (f1 F_ways (fCons (fV 2) fNil)))
    (gSeq (gSet 7 (f1 sumD (frz (fLc [10] (f1 keysK (fV 5)) (.n 10) fYes (f2 getI (fV 5) (fV 10))))))
    (gSeq (gIf (fOr (f1 bo (f2 neKD (fVT 6) (fV 5))) (f1 bo (f2 neD (f1 reprD (frz (f1 F_ends (fCons (fV 2) fNil)))) (f1 reprD (f1 tupD (fCons (f1 minKD (fV 5)) (fCons (f1 maxKD (fV 5)) fNil))))))) (gRet (fC (.bool false)))
    gNext)
    (gSeq (gSet 8 (frz (f1 F__law_fraction (fCons (f1 sumD (frz (fLc [10] (f1 keysK (fV 5)) (.n 10) fYes (frz (f2 mulS (fV 10) (f2 getI (fV 5) (fV 10))))))) (fCons (fV 7) fNil)))))
    (gSeq (gSetF 9 (f1 lstS fNil))
    (gSeq (gFor [10] (f1 itemsD (frz (f1 sortedKS (fV 5)))) (.n 10) b_law_1)
    (gSeq (gRel 9 (gIf (fOr (f1 bo (f2 neD (f1 reprD (frz (f1 F_mean (fCons (fV 2) fNil)))) (f1 reprD (fV 8)))) (f1 bo (f2 neD (f1 reprD (frz (f1 F_spread (fCons (fV 2) fNil)))) (f1 reprD (frz (f1 F__law_added (fCons (fV 9) fNil))))))) (gRet (fC (.bool false)))
    gNext))
    (gSeq (gIf (fOr (f1 bo (f2 neD (frz (f1 F_mean (fCons (fV 2) fNil))) (frz (f1 F__law_added (fCons (frz (fLc [19] (f1 itemsD (fV 2)) (.n 19) fYes b_law_2)) fNil))))) (f1 bo (f2 neD (frz (f1 F_spread (fCons (fV 2) fNil))) (frz (f1 F__law_added (fCons (frz (fLc [19] (f1 itemsD (fV 2)) (.n 19) fYes b_law_3)) fNil)))))) (gRet (fC (.bool false)))
    gNext)
    (gSeq (gIf (fOr (f1 bo (f2 neD (frz (f1 F_mean (fCons (frz (f2 addS (fV 2) (fV 3))) fNil))) (frz (f1 F__law_plus (fCons (fV 8) (fCons (frz (f1 F_mean (fCons (fV 3) fNil))) fNil)))))) (f1 bo (f2 neD (frz (f1 F_spread (fCons (frz (f2 addS (fV 2) (fV 3))) fNil))) (frz (f1 F__law_plus (fCons (frz (f1 F_spread (fCons (fV 2) fNil))) (fCons (frz (f1 F_spread (fCons (fV 3) fNil))) fNil))))))) (gRet (fC (.bool false)))
    gNext)
    (gSeq (gIf (fOr (f1 bo (f2 neKD (frz (f1 F_ways (fCons (frz (f1 revS (fV 2))) fNil))) (fV 5))) (f1 bo (f2 neD (frz (f1 F_mean (fCons (frz (f1 revS (fV 2))) fNil))) (fV 8)))) (gRet (fC (.bool false)))
    gNext)
    (gSeq (gFor [10, 12, 13, 14, 15, 16] (f1 range1D (fC (.int 5))) (.n 12) b_law_4)
    (gSeq (gSet 17 (frz (f1 F__law_fraction (fCons (frz (f2 addS (fC (.int 1)) (frz (f1 F__law_mix (fCons (fV 1) (fCons (fC (.int 170)) (fCons (fC (.int 20)) fNil))))))) (fCons (frz (f2 addS (fC (.int 1)) (frz (f1 F__law_mix (fCons (fV 1) (fCons (fC (.int 171)) (fCons (fC (.int 3)) fNil))))))) fNil)))))
    (gSeq (gSet 18 (fC (.int 0)))
    (gSeq (gFor [10] (f1 keysK (fV 5)) (.n 10) b_law_5)
    (gSeq (gIf (f1 bo (frz (f1 F__law_less (fCons (frz (f1 F_spread (fCons (fV 2) fNil))) (fCons (frz (f1 F__law_times (fCons (frz (f1 F__law_fraction (fCons (fV 18) (fCons (fV 7) fNil)))) (fCons (frz (f1 F__law_times (fCons (fV 17) (fCons (fV 17) fNil)))) fNil)))) fNil))))) (gRet (fC (.bool false)))
    gNext)
    (gSeq (gClear 6)
    (gRet (fAndV (f2 eqKD (frz (f1 F_ways (fCons (fV 2) fNil))) (fV 5)) (f2 eqD (f1 reprD (f1 tupD (fCons (fV 2) (fCons (fV 3) fNil)))) (fV 4)))))))))))))))))))))))))
noncomputable def F_law : List Int → Option Sl := runS 20 g_law
theorem ok_law (T : Txt K mg Ad Fd) : FnG P w K mg base 6 (Ad 38) (Fd 38) ["script"] (spS K F_law) :=
  have nd := sc_law.nd
  fn_law (g := g_law) T.d_law.fn sc_law rfl (fun _ _ h => h) fun cdv A outer s H E hg hr => by exact (ss_cons (sd_set (i := 1) nd rfl (by first | exact Or.inl rfl | exact Or.inr rfl) (PF.cl (pf_callS 0 (ok__law_draws T) (hr.mono (by decide)) rfl T.d__law_draws.at_ T.d__law_draws.fn.kp T.d__law_draws.bi)))
    (ss_cons (sd_set (i := 2) nd rfl (by first | exact Or.inl rfl | exact Or.inr rfl) (PF.cl (pf_call (ok__law_chain T) (hr.mono (by decide)) rfl T.d__law_chain.at_ T.d__law_chain.fn.kp T.d__law_chain.bi (ar_cons (pd_v 1) (ar_cons pd_int (ar_cons pd_int ar_nil))))))
    (ss_cons (sd_set (i := 3) nd rfl (by first | exact Or.inl rfl | exact Or.inr rfl) (PF.cl (pf_call (ok__law_chain T) (hr.mono (by decide)) rfl T.d__law_chain.at_ T.d__law_chain.fn.kp T.d__law_chain.bi (ar_cons (pd_v 1) (ar_cons pd_int (ar_cons pd_int ar_nil))))))
    (ss_cons (sd_set (i := 4) nd rfl (by first | exact Or.inl rfl | exact Or.inr rfl) (pd_callB (cd_repr hg hr) rfl T.z_repr (by decide +kernel) (PD.top (pd_tup (ar_cons (pd_v 2) (ar_cons (pd_v 3) ar_nil))))))
    (ss_cons (sd_set (i := 5) nd rfl (by first | exact Or.inl rfl | exact Or.inr rfl) (PF.cl (pf_call (ok__law_ways T) (hr.mono (by decide)) rfl T.d__law_ways.at_ T.d__law_ways.fn.kp T.d__law_ways.bi (ar_cons (pd_v 2) ar_nil))))
    (ss_cons (sd_setF (i := 6) nd rfl (by first | exact Or.inl rfl | exact Or.inr rfl) (pf_call (ok_ways T) (hr.mono (by decide)) rfl T.d_ways.at_ T.d_ways.fn.kp T.d_ways.bi (ar_cons (pd_v 2) ar_nil)))
    (ss_cons (sd_set (i := 7) nd rfl (by first | exact Or.inl rfl | exact Or.inr rfl) (pd_callB (cd_sum rfl) rfl T.z_sum (by decide +kernel) (PF.top (pf_lc (own := [("whole", 10)]) rfl nd (it_keys (pd_v 5)) (blkOk_by (by kernel_rfl)) (by decide) (fun _ _ _ _ _ => (pt_name (i := 10) nd rfl (by first | exact Or.inl rfl | exact Or.inr rfl))) (fun _ _ _ _ _ => ptb_nil) (fun _ _ _ _ _ => (pd_getI hr (PD.top (pd_v 5)) (PD.top (pd_v 10))))))))
    (ss_cons (sd_if (pb_w (pwb_or (pb_cmp (cmp_neK hr) (pt_v 6) (PD.top (pd_v 5))) (pwb_or1 (pb_cmp (cmp_ne hr) (PD.top (pd_callB (cd_repr hg hr) rfl T.z_repr (by decide +kernel) (PF.top (pf_call (ok_ends T) (hr.mono (by decide)) rfl T.d_ends.at_ T.d_ends.fn.kp T.d_ends.bi (ar_cons (pd_v 2) ar_nil))))) (PD.top (pd_callB (cd_repr hg hr) rfl T.z_repr (by decide +kernel) (PD.top (pd_tup (ar_cons (pd_callB (cd_minK rfl) rfl T.z_min (by decide +kernel) (PD.top (pd_v 5))) (ar_cons (pd_callB (cd_maxK rfl) rfl T.z_max (by decide +kernel) (PD.top (pd_v 5))) ar_nil)))))))))) (ss_one (sd_ret pd_bl))
    ss_nil)
    (ss_cons (sd_set (i := 8) nd rfl (by first | exact Or.inl rfl | exact Or.inr rfl) (PF.cl (pf_call (ok__law_fraction T) (hr.mono (by decide)) rfl T.d__law_fraction.at_ T.d__law_fraction.fn.kp T.d__law_fraction.bi (ar_cons (pd_callB (cd_sum rfl) rfl T.z_sum (by decide +kernel) (PF.top (pf_lc (own := [("whole", 10)]) rfl nd (it_keys (pd_v 5)) (blkOk_by (by kernel_rfl)) (by decide) (fun _ _ _ _ _ => (pt_name (i := 10) nd rfl (by first | exact Or.inl rfl | exact Or.inr rfl))) (fun _ _ _ _ _ => ptb_nil) (fun _ _ _ _ _ => (PF.cl (pf_mul (PD.top (pd_v 10)) (PD.top (pd_getI hr (PD.top (pd_v 5)) (PD.top (pd_v 10)))))))))) (ar_cons (pd_v 7) ar_nil)))))
    (ss_cons (sd_setF (i := 9) nd rfl (by first | exact Or.inl rfl | exact Or.inr rfl) (pf_lst ar_nil))
    (ss_cons (sd_for (fs := [10]) PassesOwn.never rfl (it_seq (PD.x (PF.cl (pf_callB (cf_sortedK rfl hr) rfl T.z_sorted (by decide +kernel) (PD.top (pd_v 5)))))) (pt_name (i := 10) nd rfl (by first | exact Or.inl rfl | exact Or.inr rfl)) (ss_cons (sd_set (i := 11) nd rfl (by first | exact Or.inl rfl | exact Or.inr rfl) (PF.cl (pf_call (ok__law_plus T) (hr.mono (by decide)) rfl T.d__law_plus.at_ T.d__law_plus.fn.kp T.d__law_plus.bi (ar_cons (pd_tup (ar_cons (pd_v 10) (ar_cons pd_int ar_nil))) (ar_cons (pd_tup (ar_cons (pd_neg (PD.top (pd_ix (PD.top (pd_v 8)) (PD.top pd_int)))) (ar_cons (pd_ix (PD.top (pd_v 8)) (PD.top pd_int)) ar_nil))) ar_nil)))))
    (ss_one (sd_append 9 (PF.cl (pf_call (ok__law_times T) (hr.mono (by decide)) rfl T.d__law_times.at_ T.d__law_times.fn.kp T.d__law_times.bi (ar_cons (PF.cl (pf_call (ok__law_fraction T) (hr.mono (by decide)) rfl T.d__law_fraction.at_ T.d__law_fraction.fn.kp T.d__law_fraction.bi (ar_cons (pd_getI hr (PD.top (pd_v 5)) (PD.top (pd_v 10))) (ar_cons (pd_v 7) ar_nil)))) (ar_cons (PF.cl (pf_call (ok__law_times T) (hr.mono (by decide)) rfl T.d__law_times.at_ T.d__law_times.fn.kp T.d__law_times.bi (ar_cons (pd_v 11) (ar_cons (pd_v 11) ar_nil)))) ar_nil))))))))
    (ss_cons (sd_rel 9 (sd_if (pb_w (pwb_or (pb_cmp (cmp_ne hr) (PD.top (pd_callB (cd_repr hg hr) rfl T.z_repr (by decide +kernel) (PF.top (pf_call (ok_mean T) (hr.mono (by decide)) rfl T.d_mean.at_ T.d_mean.fn.kp T.d_mean.bi (ar_cons (pd_v 2) ar_nil))))) (PD.top (pd_callB (cd_repr hg hr) rfl T.z_repr (by decide +kernel) (PD.top (pd_v 8))))) (pwb_or1 (pb_cmp (cmp_ne hr) (PD.top (pd_callB (cd_repr hg hr) rfl T.z_repr (by decide +kernel) (PF.top (pf_call (ok_spread T) (hr.mono (by decide)) rfl T.d_spread.at_ T.d_spread.fn.kp T.d_spread.bi (ar_cons (pd_v 2) ar_nil))))) (PD.top (pd_callB (cd_repr hg hr) rfl T.z_repr (by decide +kernel) (PF.top (pf_call (ok__law_added T) (hr.mono (by decide)) rfl T.d__law_added.at_ T.d__law_added.fn.kp T.d__law_added.bi (ar_cons (pd_v 9) ar_nil))))))))) (ss_one (sd_ret pd_bl))
    ss_nil))
    (ss_cons (sd_if (pb_w (pwb_or (pb_cmp (cmp_ne hr) (PF.top (pf_call (ok_mean T) (hr.mono (by decide)) rfl T.d_mean.at_ T.d_mean.fn.kp T.d_mean.bi (ar_cons (pd_v 2) ar_nil))) (PF.top (pf_call (ok__law_added T) (hr.mono (by decide)) rfl T.d__law_added.at_ T.d__law_added.fn.kp T.d__law_added.bi (ar_cons (PF.cl (pf_lc (own := [("link", 19)]) rfl nd (it_seq (PTp.x (PD.top (pd_v 2)))) (blkOk_by (by kernel_rfl)) (by decide) (fun _ _ _ _ _ => (pt_name (i := 19) nd rfl (by first | exact Or.inl rfl | exact Or.inr rfl))) (fun _ _ _ _ _ => ptb_nil) (fun _ _ _ _ _ => (PF.cl (pf_call (ok_mean T) (hr.mono (by decide)) rfl T.d_mean.at_ T.d_mean.fn.kp T.d_mean.bi (ar_cons (PF.cl (pf_lst (ar_cons (pd_v 19) ar_nil))) ar_nil)))))) ar_nil)))) (pwb_or1 (pb_cmp (cmp_ne hr) (PF.top (pf_call (ok_spread T) (hr.mono (by decide)) rfl T.d_spread.at_ T.d_spread.fn.kp T.d_spread.bi (ar_cons (pd_v 2) ar_nil))) (PF.top (pf_call (ok__law_added T) (hr.mono (by decide)) rfl T.d__law_added.at_ T.d__law_added.fn.kp T.d__law_added.bi (ar_cons (PF.cl (pf_lc (own := [("link", 19)]) rfl nd (it_seq (PTp.x (PD.top (pd_v 2)))) (blkOk_by (by kernel_rfl)) (by decide) (fun _ _ _ _ _ => (pt_name (i := 19) nd rfl (by first | exact Or.inl rfl | exact Or.inr rfl))) (fun _ _ _ _ _ => ptb_nil) (fun _ _ _ _ _ => (PF.cl (pf_call (ok_spread T) (hr.mono (by decide)) rfl T.d_spread.at_ T.d_spread.fn.kp T.d_spread.bi (ar_cons (PF.cl (pf_lst (ar_cons (pd_v 19) ar_nil))) ar_nil)))))) ar_nil))))))) (ss_one (sd_ret pd_bl))
    ss_nil)
    (ss_cons (sd_if (pb_w (pwb_or (pb_cmp (cmp_ne hr) (PF.top (pf_call (ok_mean T) (hr.mono (by decide)) rfl T.d_mean.at_ T.d_mean.fn.kp T.d_mean.bi (ar_cons (PF.cl (pf_add (PD.top (pd_v 2)) (PD.top (pd_v 3)))) ar_nil))) (PF.top (pf_call (ok__law_plus T) (hr.mono (by decide)) rfl T.d__law_plus.at_ T.d__law_plus.fn.kp T.d__law_plus.bi (ar_cons (pd_v 8) (ar_cons (PF.cl (pf_call (ok_mean T) (hr.mono (by decide)) rfl T.d_mean.at_ T.d_mean.fn.kp T.d_mean.bi (ar_cons (pd_v 3) ar_nil))) ar_nil))))) (pwb_or1 (pb_cmp (cmp_ne hr) (PF.top (pf_call (ok_spread T) (hr.mono (by decide)) rfl T.d_spread.at_ T.d_spread.fn.kp T.d_spread.bi (ar_cons (PF.cl (pf_add (PD.top (pd_v 2)) (PD.top (pd_v 3)))) ar_nil))) (PF.top (pf_call (ok__law_plus T) (hr.mono (by decide)) rfl T.d__law_plus.at_ T.d__law_plus.fn.kp T.d__law_plus.bi (ar_cons (PF.cl (pf_call (ok_spread T) (hr.mono (by decide)) rfl T.d_spread.at_ T.d_spread.fn.kp T.d_spread.bi (ar_cons (pd_v 2) ar_nil))) (ar_cons (PF.cl (pf_call (ok_spread T) (hr.mono (by decide)) rfl T.d_spread.at_ T.d_spread.fn.kp T.d_spread.bi (ar_cons (pd_v 3) ar_nil))) ar_nil)))))))) (ss_one (sd_ret pd_bl))
    ss_nil)
    (ss_cons (sd_if (pb_w (pwb_or (pb_cmp (cmp_neK hr) (PF.top (pf_call (ok_ways T) (hr.mono (by decide)) rfl T.d_ways.at_ T.d_ways.fn.kp T.d_ways.bi (ar_cons (PF.cl (pf_rev (PD.top (pd_v 2)))) ar_nil))) (PD.top (pd_v 5))) (pwb_or1 (pb_cmp (cmp_ne hr) (PF.top (pf_call (ok_mean T) (hr.mono (by decide)) rfl T.d_mean.at_ T.d_mean.fn.kp T.d_mean.bi (ar_cons (PF.cl (pf_rev (PD.top (pd_v 2)))) ar_nil))) (PD.top (pd_v 8)))))) (ss_one (sd_ret pd_bl))
    ss_nil)
    (ss_cons (sd_for (fs := [10, 12, 13, 14, 15, 16]) PassesOwn.never rfl (it_range1 rfl T.z_range (PD.top pd_int)) (pt_name (i := 12) nd rfl (by first | exact Or.inl rfl | exact Or.inr rfl)) (ss_cons (sd_set (i := 13) nd rfl (by first | exact Or.inl rfl | exact Or.inr rfl) (pd_sub (PF.top (pf_add (PD.top (pd_callB (cd_minK rfl) rfl T.z_min (by decide +kernel) (PD.top (pd_v 5)))) (PF.top (pf_call (ok__law_mix T) (hr.mono (by decide)) rfl T.d__law_mix.at_ T.d__law_mix.fn.kp T.d__law_mix.bi (ar_cons (pd_v 1) (ar_cons (PF.cl (pf_add (PD.top pd_int) (PF.top (pf_mul (PD.top pd_int) (PD.top (pd_v 12)))))) (ar_cons (PF.cl (pf_add (PD.top (pd_sub (PD.top (pd_callB (cd_maxK rfl) rfl T.z_max (by decide +kernel) (PD.top (pd_v 5)))) (PD.top (pd_callB (cd_minK rfl) rfl T.z_min (by decide +kernel) (PD.top (pd_v 5)))))) (PD.top pd_int))) ar_nil))))))) (PD.top pd_int)))
    (ss_cons (sd_set (i := 14) nd rfl (by first | exact Or.inl rfl | exact Or.inr rfl) (PF.cl (pf_add (PD.top (pd_v 13)) (PF.top (pf_call (ok__law_mix T) (hr.mono (by decide)) rfl T.d__law_mix.at_ T.d__law_mix.fn.kp T.d__law_mix.bi (ar_cons (pd_v 1) (ar_cons (PF.cl (pf_add (PD.top pd_int) (PF.top (pf_mul (PD.top pd_int) (PD.top (pd_v 12)))))) (ar_cons (PF.cl (pf_add (PD.top (pd_sub (PD.top (pd_callB (cd_maxK rfl) rfl T.z_max (by decide +kernel) (PD.top (pd_v 5)))) (PD.top (pd_callB (cd_minK rfl) rfl T.z_min (by decide +kernel) (PD.top (pd_v 5)))))) (PD.top pd_int))) ar_nil))))))))
    (ss_cons (sd_set (i := 15) nd rfl (by first | exact Or.inl rfl | exact Or.inr rfl) (pd_callB (cd_sum rfl) rfl T.z_sum (by decide +kernel) (PF.top (pf_lc (own := [("whole", 10)]) rfl nd (it_keys (pd_v 5)) (blkOk_by (by kernel_rfl)) (by decide) (fun _ _ _ _ _ => (pt_name (i := 10) nd rfl (by first | exact Or.inl rfl | exact Or.inr rfl))) (fun _ _ _ _ _ => (ptb_one (pb_chain cmp_le cmp_le (PD.top (pd_v 13)) (PD.top (pd_v 10)) (PD.top (pd_v 14))))) (fun _ _ _ _ _ => (pd_getI hr (PD.top (pd_v 5)) (PD.top (pd_v 10))))))))
    (ss_cons (sd_set (i := 16) nd rfl (by first | exact Or.inl rfl | exact Or.inr rfl) (PF.cl (pf_call (ok_share T) (hr.mono (by decide)) rfl T.d_share.at_ T.d_share.fn.kp T.d_share.bi (ar_cons (pd_v 2) (ar_cons (pd_v 13) (ar_cons (pd_v 14) ar_nil))))))
    (ss_one (sd_if (pb_w (pwb_or (pb_cmp (cmp_ne hr) (PD.top (pd_callB (cd_repr hg hr) rfl T.z_repr (by decide +kernel) (PD.top (pd_v 16)))) (PD.top (pd_callB (cd_repr hg hr) rfl T.z_repr (by decide +kernel) (PF.top (pf_call (ok__law_fraction T) (hr.mono (by decide)) rfl T.d__law_fraction.at_ T.d__law_fraction.fn.kp T.d__law_fraction.bi (ar_cons (pd_v 15) (ar_cons (pd_v 7) ar_nil))))))) (pwb_or1 (pb_cmp (cmp_ne hr) (PD.top (pd_cmp (cmp_eq hr) (PD.top (pd_v 16)) (PD.top (pd_tup (ar_cons pd_int (ar_cons pd_int ar_nil)))))) (PD.top (pd_and (pd_cmp cmp_le (PD.top (pd_v 13)) (PD.top (pd_callB (cd_minK rfl) rfl T.z_min (by decide +kernel) (PD.top (pd_v 5))))) (pd_one (pd_cmp cmp_le (PD.top (pd_callB (cd_maxK rfl) rfl T.z_max (by decide +kernel) (PD.top (pd_v 5)))) (PD.top (pd_v 14)))))))))) (ss_one (sd_ret pd_bl))
    ss_nil)))))))
    (ss_cons (sd_set (i := 17) nd rfl (by first | exact Or.inl rfl | exact Or.inr rfl) (PF.cl (pf_call (ok__law_fraction T) (hr.mono (by decide)) rfl T.d__law_fraction.at_ T.d__law_fraction.fn.kp T.d__law_fraction.bi (ar_cons (PF.cl (pf_add (PD.top pd_int) (PF.top (pf_call (ok__law_mix T) (hr.mono (by decide)) rfl T.d__law_mix.at_ T.d__law_mix.fn.kp T.d__law_mix.bi (ar_cons (pd_v 1) (ar_cons pd_int (ar_cons pd_int ar_nil))))))) (ar_cons (PF.cl (pf_add (PD.top pd_int) (PF.top (pf_call (ok__law_mix T) (hr.mono (by decide)) rfl T.d__law_mix.at_ T.d__law_mix.fn.kp T.d__law_mix.bi (ar_cons (pd_v 1) (ar_cons pd_int (ar_cons pd_int ar_nil))))))) ar_nil)))))
    (ss_cons (sd_set (i := 18) nd rfl (by first | exact Or.inl rfl | exact Or.inr rfl) pd_int)
    (ss_cons (sd_for (fs := [10]) PassesOwn.never rfl (it_keys (pd_v 5)) (pt_name (i := 10) nd rfl (by first | exact Or.inl rfl | exact Or.inr rfl)) (ss_cons (sd_set (i := 11) nd rfl (by first | exact Or.inl rfl | exact Or.inr rfl) (PF.cl (pf_call (ok__law_plus T) (hr.mono (by decide)) rfl T.d__law_plus.at_ T.d__law_plus.fn.kp T.d__law_plus.bi (ar_cons (pd_tup (ar_cons (pd_v 10) (ar_cons pd_int ar_nil))) (ar_cons (pd_tup (ar_cons (pd_neg (PD.top (pd_ix (PD.top (pd_v 8)) (PD.top pd_int)))) (ar_cons (pd_ix (PD.top (pd_v 8)) (PD.top pd_int)) ar_nil))) ar_nil)))))
    (ss_one (sd_if (pb_not (pb_val (PF.cl (pf_call (ok__law_less T) (hr.mono (by decide)) rfl T.d__law_less.at_ T.d__law_less.fn.kp T.d__law_less.bi (ar_cons (pd_tup (ar_cons (pd_callB cd_abs rfl T.z_abs (by decide +kernel) (PD.top (pd_ix (PD.top (pd_v 11)) (PD.top pd_int)))) (ar_cons (pd_ix (PD.top (pd_v 11)) (PD.top pd_int)) ar_nil))) (ar_cons (pd_v 17) ar_nil)))))) (ss_one (sd_set (i := 18) nd rfl (by first | exact Or.inl rfl | exact Or.inr rfl) (PF.cl (pf_add (PD.top (pd_v 18)) (PD.top (pd_getI hr (PD.top (pd_v 5)) (PD.top (pd_v 10))))))))
    ss_nil))))
    (ss_cons (sd_if (pb_val (PF.cl (pf_call (ok__law_less T) (hr.mono (by decide)) rfl T.d__law_less.at_ T.d__law_less.fn.kp T.d__law_less.bi (ar_cons (PF.cl (pf_call (ok_spread T) (hr.mono (by decide)) rfl T.d_spread.at_ T.d_spread.fn.kp T.d_spread.bi (ar_cons (pd_v 2) ar_nil))) (ar_cons (PF.cl (pf_call (ok__law_times T) (hr.mono (by decide)) rfl T.d__law_times.at_ T.d__law_times.fn.kp T.d__law_times.bi (ar_cons (PF.cl (pf_call (ok__law_fraction T) (hr.mono (by decide)) rfl T.d__law_fraction.at_ T.d__law_fraction.fn.kp T.d__law_fraction.bi (ar_cons (pd_v 18) (ar_cons (pd_v 7) ar_nil)))) (ar_cons (PF.cl (pf_call (ok__law_times T) (hr.mono (by decide)) rfl T.d__law_times.at_ T.d__law_times.fn.kp T.d__law_times.bi (ar_cons (pd_v 17) (ar_cons (pd_v 17) ar_nil)))) ar_nil)))) ar_nil))))) (ss_one (sd_ret pd_bl))
    ss_nil)
    (ss_cons (sd_clear 6)
    (ss_one (sd_ret (pd_and (pd_cmp (cmp_eqK hr) (PF.top (pf_call (ok_ways T) (hr.mono (by decide)) rfl T.d_ways.at_ T.d_ways.fn.kp T.d_ways.bi (ar_cons (pd_v 2) ar_nil))) (PD.top (pd_v 5))) (pd_one (pd_cmp (cmp_eq hr) (PD.top (pd_callB (cd_repr hg hr) rfl T.z_repr (by decide +kernel) (PD.top (pd_tup (ar_cons (pd_v 2) (ar_cons (pd_v 3) ar_nil)))))) (PD.top (pd_v 4))))))))))))))))))))))))))))
end
end K54

set_option Elab.async false
set_option linter.all false
set_option maxRecDepth 100000
/-! k54, plain: wholes with how many ways. -/
namespace K54
/-- weights: a whole and how many ways lead to it -/
abbrev Wt := List (Int × Int)
/-- the sum of f over weights -/
def Ew : Wt → (Int → Rat) → Rat
  | [], _ => 0
  | p :: r, f => (p.2 : Rat) * f p.1 + Ew r f
theorem Ew_app (a b : Wt) (f : Int → Rat) : Ew (a ++ b) f = Ew a f + Ew b f := by
  induction a with
  | nil => simp [Ew]; grind
  | cons p a ih => rw [List.cons_append, Ew, Ew, ih]; grind
theorem Ew_congr {a : Wt} {f g : Int → Rat} (h : ∀ p ∈ a, f p.1 = g p.1) : Ew a f = Ew a g := by
  induction a with
  | nil => rfl
  | cons p a ih => rw [Ew, Ew, ih fun q hq => h q (List.mem_cons_of_mem _ hq), h p List.mem_cons_self]
theorem Ew_add (a : Wt) (f g : Int → Rat) : Ew a (fun w => f w + g w) = Ew a f + Ew a g := by
  induction a with
  | nil => simp [Ew]; grind
  | cons p a ih => rw [Ew, Ew, Ew, ih]; grind
theorem Ew_mul (a : Wt) (c : Rat) (f : Int → Rat) : Ew a (fun w => c * f w) = c * Ew a f := by
  induction a with
  | nil => simp [Ew]
  | cons p a ih => rw [Ew, Ew, ih]; grind
theorem Ew_zero (a : Wt) : Ew a (fun _ => 0) = 0 := by
  induction a with
  | nil => rfl
  | cons p a ih => rw [Ew, ih]; grind
theorem Ew_const (a : Wt) (c : Rat) : Ew a (fun _ => c) = c * Ew a (fun _ => 1) := by
  rw [← Ew_mul]
  exact Ew_congr fun _ _ => by grind
theorem Ew_le {a : Wt} {f g : Int → Rat} (h : ∀ p ∈ a, 0 ≤ p.2 ∧ f p.1 ≤ g p.1) : Ew a f ≤ Ew a g := by
  induction a with
  | nil => exact Rat.le_refl
  | cons p a ih =>
    rw [Ew, Ew]
    obtain ⟨h1, h2⟩ := h p List.mem_cons_self
    have h3 := ih fun q hq => h q (List.mem_cons_of_mem _ hq)
    have h4 : (p.2 : Rat) * f p.1 ≤ (p.2 : Rat) * g p.1 := Rat.mul_le_mul_of_nonneg_left h2 (by exact_mod_cast h1)
    grind
theorem Ew_comm (a b : Wt) (g : Int → Int → Rat) : Ew a (fun x => Ew b (fun y => g x y)) = Ew b (fun y => Ew a (fun x => g x y)) := by
  induction a with
  | nil => simp [Ew, Ew_zero]
  | cons p a ih =>
    rw [Ew, ih]
    have : (fun y => Ew (p :: a) (fun x => g x y)) = fun y => (p.2 : Rat) * g p.1 y + Ew a (fun x => g x y) := by funext y; rw [Ew]
    rw [this, Ew_add, Ew_mul]
/-- two weights give the same sums -/
def Sim (a b : Wt) : Prop := ∀ f, Ew a f = Ew b f
/-- a link: sign, size, errors with their counts -/
structure Link where
  sign : Int
  size : Int
  errs : Wt
/-- one link more -/
def step (a : Wt) (l : Link) : Wt := a.flatMap fun p => l.errs.map fun e => (p.1 + l.sign * (l.size + e.1), p.2 * e.2)
theorem Ew_map (l : Link) (w m : Int) (f : Int → Rat) : Ew (l.errs.map fun e => (w + l.sign * (l.size + e.1), m * e.2)) f = m * Ew l.errs (fun e => f (w + l.sign * (l.size + e))) := by
  induction l.errs with
  | nil => simp [Ew]
  | cons e r ih =>
    rw [List.map_cons, Ew, Ew, ih]
    have : ((m * e.2 : Int) : Rat) = (m : Rat) * (e.2 : Rat) := by push_cast; rfl
    grind
theorem Ew_step (a : Wt) (l : Link) (f : Int → Rat) : Ew (step a l) f = Ew a (fun w => Ew l.errs (fun e => f (w + l.sign * (l.size + e)))) := by
  induction a with
  | nil => rfl
  | cons p a ih =>
    have e : step (p :: a) l = (l.errs.map fun e => (p.1 + l.sign * (l.size + e.1), p.2 * e.2)) ++ step a l := rfl
    rw [e, Ew_app, ih, Ew_map, Ew]
theorem Sim.step {a b : Wt} (h : Sim a b) (l : Link) : Sim (step a l) (step b l) := fun f => by rw [Ew_step, Ew_step, h]
def from_ (a : Wt) (c : List Link) : Wt := c.foldl step a
def ways (c : List Link) : Wt := from_ [(0, 1)] c
theorem Sim.from_ {a b : Wt} (h : Sim a b) (c : List Link) : Sim (from_ a c) (from_ b c) := by
  induction c generalizing a b with
  | nil => exact h
  | cons l c ih => exact ih (h.step l)
theorem sim_swap (a : Wt) (k l : Link) : Sim (step (step a k) l) (step (step a l) k) := fun f => by
  rw [Ew_step, Ew_step, Ew_step, Ew_step]
  refine Ew_congr fun p _ => ?_
  rw [Ew_comm]
  refine Ew_congr fun q _ => Ew_congr fun r _ => ?_
  congr 1
  omega
theorem Sim.trans {a b c : Wt} (h : Sim a b) (k : Sim b c) : Sim a c := fun f => (h f).trans (k f)
theorem Sim.symm {a b : Wt} (h : Sim a b) : Sim b a := fun f => (h f).symm
theorem sim_late (c : List Link) : ∀ (a : Wt) (l : Link), Sim (K54.from_ (step a l) c) (step (K54.from_ a c) l) := by
  induction c with
  | nil => intro a l f; rfl
  | cons k c ih =>
    intro a l
    exact Sim.trans (Sim.from_ (sim_swap a l k) c) (ih (K54.step a k) l)
theorem ways_app (c : List Link) (l : Link) : ways (c ++ [l]) = step (ways c) l := by
  unfold ways from_
  rw [List.foldl_append]; rfl
theorem sim_rev (c : List Link) : Sim (ways c.reverse) (ways c) := by
  induction c with
  | nil => exact fun f => rfl
  | cons l c ih =>
    rw [List.reverse_cons, ways_app]
    exact Sim.trans (Sim.step ih l) (Sim.symm (sim_late c [(0, 1)] l))

/-! ### mean and spread -/
def tot (e : Wt) : Rat := Ew e fun _ => 1
def me (e : Wt) : Rat := Ew e (fun x => x) / tot e
def va (e : Wt) : Rat := Ew e (fun x => ((x : Rat) - me e) * ((x : Rat) - me e)) / tot e
def mL (l : Link) : Rat := (l.sign : Rat) * ((l.size : Rat) + me l.errs)
def Mc (c : List Link) : Rat := DL.sumQ (c.map mL)
def Vc (c : List Link) : Rat := DL.sumQ (c.map fun l => va l.errs)
/-- a link as the law draws it -/
structure Good (l : Link) : Prop where
  sg : l.sign = 1 ∨ l.sign = -1
  z0 : 0 ≤ l.size
  z1 : l.size < 30
  n0 : 1 ≤ l.errs.length
  n1 : l.errs.length ≤ 3
  er : ∀ e ∈ l.errs, -5 ≤ e.1 ∧ e.1 ≤ 5 ∧ 1 ≤ e.2 ∧ e.2 ≤ 4
  asc : l.errs.Pairwise fun a b => a.1 < b.1
theorem tot_pos {e : Wt} (h : 1 ≤ e.length) (hp : ∀ p ∈ e, 1 ≤ p.2) : 0 < tot e := by
  have key : ∀ (e : Wt), (∀ p ∈ e, 1 ≤ p.2) → (e.length : Rat) ≤ Ew e fun _ => 1 := by
    intro e
    induction e with
    | nil => intro _; simp [Ew]
    | cons p e ih =>
      intro hp
      have h1 := ih fun q hq => hp q (List.mem_cons_of_mem _ hq)
      have h2 : (1 : Rat) ≤ (p.2 : Rat) := by exact_mod_cast hp p List.mem_cons_self
      rw [Ew, List.length_cons]
      push_cast
      grind
  have h1 := key e hp
  have h2 : (1 : Rat) ≤ (e.length : Rat) := by exact_mod_cast h
  unfold tot
  grind
theorem Good.tot {l : Link} (g : Good l) : 0 < K54.tot l.errs := tot_pos g.n0 fun p hp => (g.er p hp).2.2.1
theorem me_mul {e : Wt} (h : 0 < tot e) : tot e * me e = Ew e (fun x => x) := by
  unfold me
  have : tot e ≠ 0 := by grind
  rw [Rat.mul_comm, Rat.div_mul_cancel this]
theorem va_mul {e : Wt} (h : 0 < tot e) : tot e * va e = Ew e (fun x => ((x : Rat) - me e) * ((x : Rat) - me e)) := by
  unfold va
  have : tot e ≠ 0 := by grind
  rw [Rat.mul_comm, Rat.div_mul_cancel this]
/-- the whole of all ways -/
def Tc (c : List Link) : Rat := Ew (ways c) fun _ => 1
theorem Tc_app (c : List Link) (l : Link) : Tc (c ++ [l]) = Tc c * tot l.errs := by
  unfold Tc
  rw [ways_app, Ew_step, Ew_const]
  unfold tot
  grind
theorem Mc_app (c : List Link) (l : Link) : Mc (c ++ [l]) = Mc c + mL l := by
  unfold Mc
  rw [List.map_append]
  exact DL.sumQ_app _ _
theorem Vc_app (c : List Link) (l : Link) : Vc (c ++ [l]) = Vc c + va l.errs := by
  unfold Vc
  rw [List.map_append]
  exact DL.sumQ_app _ _
theorem rev_ind {P : List Link → Prop} (h0 : P []) (h1 : ∀ c l, P c → P (c ++ [l])) : ∀ c, P c := fun c => by
  have : ∀ c : List Link, P c.reverse := by
    intro c
    induction c with
    | nil => exact h0
    | cons l c ih => rw [List.reverse_cons]; exact h1 _ _ ih
  have := this c.reverse
  rwa [List.reverse_reverse] at this
theorem good_app {c : List Link} {l : Link} (h : ∀ k ∈ c ++ [l], Good k) : (∀ k ∈ c, Good k) ∧ Good l := ⟨fun k hk => h k (by simp [hk]), h l (by simp)⟩
theorem mean_is : ∀ c : List Link, (∀ l ∈ c, Good l) → Ew (ways c) (fun w => w) = Tc c * Mc c := by
  refine rev_ind (fun _ => by simp [ways, from_, Ew, Tc, Mc, DL.sumQ]; grind) fun c l ih h => ?_
  obtain ⟨h1, h2⟩ := good_app h
  rw [ways_app, Ew_step, Tc_app, Mc_app]
  have e : (fun w : Int => Ew l.errs (fun e => ((w + l.sign * (l.size + e) : Int) : Rat))) = fun w : Int => tot l.errs * (w : Rat) + (l.sign : Rat) * ((l.size : Rat) * tot l.errs + tot l.errs * me l.errs) := by
    funext w
    have e1 : Ew l.errs (fun e => ((w + l.sign * (l.size + e) : Int) : Rat)) = Ew l.errs (fun e => ((w : Rat) + (l.sign : Rat) * (l.size : Rat)) * 1 + (l.sign : Rat) * (e : Rat)) := Ew_congr fun p _ => by push_cast; grind
    rw [e1, Ew_add, Ew_mul, Ew_mul, ← me_mul h2.tot]
    unfold tot
    grind
  rw [e, Ew_add, Ew_mul, ih h1, Ew_const]
  have : Ew (ways c) (fun _ => 1) = Tc c := rfl
  rw [this]
  unfold mL
  grind
theorem spread_is : ∀ c : List Link, (∀ l ∈ c, Good l) → Ew (ways c) (fun w => ((w : Rat) - Mc c) * ((w : Rat) - Mc c)) = Tc c * Vc c := by
  refine rev_ind (fun _ => by simp [ways, from_, Ew, Tc, Mc, Vc, DL.sumQ]; grind) fun c l ih h => ?_
  obtain ⟨h1, h2⟩ := good_app h
  rw [ways_app, Ew_step, Tc_app, Vc_app]
  have sq : (l.sign : Rat) * (l.sign : Rat) = 1 := by
    rcases h2.sg with e | e <;> rw [e] <;> decide +kernel
  have e : (fun w : Int => Ew l.errs (fun e => (((w + l.sign * (l.size + e) : Int) : Rat) - Mc (c ++ [l])) * (((w + l.sign * (l.size + e) : Int) : Rat) - Mc (c ++ [l])))) =
      fun w : Int => tot l.errs * (((w : Rat) - Mc c) * ((w : Rat) - Mc c)) + tot l.errs * va l.errs := by
    funext w
    have e1 : Ew l.errs (fun e => (((w + l.sign * (l.size + e) : Int) : Rat) - Mc (c ++ [l])) * (((w + l.sign * (l.size + e) : Int) : Rat) - Mc (c ++ [l]))) =
        Ew l.errs (fun e => ((((w : Rat) - Mc c) * ((w : Rat) - Mc c)) * 1 + (2 * ((w : Rat) - Mc c) * (l.sign : Rat)) * ((e : Rat) + (- me l.errs) * 1)) + ((e : Rat) - me l.errs) * ((e : Rat) - me l.errs)) := Ew_congr fun p _ => by
      rw [Mc_app]
      unfold mL
      push_cast
      grind
    rw [e1, Ew_add, Ew_add, Ew_mul, Ew_mul, Ew_add, Ew_mul, ← va_mul h2.tot, ← me_mul h2.tot]
    unfold tot
    grind
  rw [e, Ew_add, Ew_mul, ih h1, Ew_const]
  have : Ew (ways c) (fun _ => 1) = Tc c := rfl
  rw [this]
  grind
theorem Tc_pos : ∀ c : List Link, (∀ l ∈ c, Good l) → 0 < Tc c := by
  refine rev_ind (fun _ => by unfold Tc ways from_; simp [Ew]; decide +kernel) fun c l ih h => ?_
  obtain ⟨h1, h2⟩ := good_app h
  rw [Tc_app]
  exact Rat.mul_pos (ih h1) h2.tot
end K54

set_option Elab.async false
set_option linter.all false
set_option maxRecDepth 100000
/-! k54, plain: weights as dicts. -/
namespace K54
open PySem DL
/-! ### dicts of ints -/
def encD (a : Wt) : Kvs := a.map fun p => (.int p.1, .int p.2)
def lookA : Wt → Int → Option Int
  | [], _ => none
  | p :: r, x => if p.1 = x then some p.2 else lookA r x
def hasA : Wt → Int → Bool
  | [], _ => false
  | p :: r, x => if p.1 = x then true else hasA r x
def setA : Wt → Int → Int → Wt
  | [], _, _ => []
  | p :: r, x, n => (if p.1 = x then (p.1, n) else p) :: setA r x n
def putA (a : Wt) (x n : Int) : Wt := if hasA a x then setA a x n else a ++ [(x, n)]
theorem look_enc (a : Wt) (x : Int) : lookK (encD a) (.inl x) = (lookA a x).map PyData.int := by
  induction a with
  | nil => rfl
  | cons p a ih =>
    unfold lookK encD at ih ⊢
    rw [List.map_cons, List.find?_cons]
    by_cases h : p.1 = x
    · simp [keyK, lookA, h]
    · have : ¬ (some (Sum.inl p.1 : L2.Key) = some (.inl x)) := fun z => h (Sum.inl.inj (Option.some.inj z))
      simp only [keyK, this, decide_false, lookA, h, if_false]
      exact ih
theorem has_enc (a : Wt) (x : Int) : hasK (encD a) (.inl x) = hasA a x := by
  induction a with
  | nil => rfl
  | cons p a ih =>
    unfold hasK encD at ih ⊢
    rw [List.map_cons, List.any_cons, ih, hasA]
    by_cases h : p.1 = x
    · simp [keyK, h]
    · have : ¬ (some (Sum.inl p.1 : L2.Key) = some (.inl x)) := fun z => h (Sum.inl.inj (Option.some.inj z))
      simp [keyK, h]
theorem put_enc (a : Wt) (x n : Int) : putD (encD a) (.inl x) (.int n) = encD (putA a x n) := by
  unfold putD putA
  rw [has_enc]
  split
  · have key : ∀ a : Wt, (encD a).map (fun p => if keyK p.1 = some (.inl x) then (p.1, PyData.int n) else p) = encD (setA a x n) := by
      intro a
      induction a with
      | nil => rfl
      | cons p a ih =>
        unfold encD at ih ⊢
        rw [List.map_cons, List.map_cons, ih, setA, List.map_cons]
        congr 1
        by_cases h : p.1 = x
        · simp [keyK, h]
        · have : ¬ (some (Sum.inl p.1 : L2.Key) = some (.inl x)) := fun z => h (Sum.inl.inj (Option.some.inj z))
          simp [keyK, h]
    exact key a
  · unfold encD
    rw [List.map_append]
    rfl
theorem hasA_mem {a : Wt} {x : Int} : hasA a x = true ↔ x ∈ a.map (·.1) := by
  induction a with
  | nil => simp [hasA]
  | cons p a ih =>
    rw [hasA, List.map_cons, List.mem_cons]
    split
    · next h => simp [h]
    · next h =>
      rw [ih]
      constructor
      · exact .inr
      · rintro (e | e)
        · exact absurd e.symm h
        · exact e
theorem setA_keys (a : Wt) (x n : Int) : (setA a x n).map (·.1) = a.map (·.1) := by
  induction a with
  | nil => rfl
  | cons p a ih =>
    rw [setA, List.map_cons, List.map_cons, ih]
    split <;> rfl
theorem lookA_none {a : Wt} {x : Int} (h : x ∉ a.map (·.1)) : lookA a x = none := by
  induction a with
  | nil => rfl
  | cons p a ih =>
    rw [List.map_cons, List.mem_cons, not_or] at h
    rw [lookA, if_neg (fun e => h.1 e.symm), ih h.2]
theorem lookA_mem {a : Wt} {x n : Int} (nd : (a.map (·.1)).Nodup) (h : (x, n) ∈ a) : lookA a x = some n := by
  induction a with
  | nil => cases h
  | cons p a ih =>
    rw [List.map_cons, List.nodup_cons] at nd
    rw [lookA]
    rcases List.mem_cons.mp h with e | h
    · subst e; rw [if_pos rfl]
    · have : p.1 ≠ x := fun e => nd.1 (by rw [e]; exact List.mem_map.mpr ⟨_, h, rfl⟩)
      rw [if_neg this, ih nd.2 h]
theorem lookA_some {a : Wt} {x n : Int} (h : lookA a x = some n) : (x, n) ∈ a := by
  induction a with
  | nil => cases h
  | cons p a ih =>
    rw [lookA] at h
    split at h
    · next e => cases h; subst e; exact List.mem_cons_self
    · exact List.mem_cons_of_mem _ (ih h)
theorem Ew_setA {a : Wt} {x v n : Int} (nd : (a.map (·.1)).Nodup) (h : lookA a x = some v) (f : Int → Rat) : Ew (setA a x n) f = Ew a f + ((n : Rat) - v) * f x := by
  induction a with
  | nil => cases h
  | cons p a ih =>
    rw [List.map_cons, List.nodup_cons] at nd
    rw [lookA] at h
    rw [setA]
    split at h
    · next e =>
      cases h
      have hn : ∀ a : Wt, x ∉ a.map (·.1) → setA a x n = a := by
        intro a
        induction a with
        | nil => intro _; rfl
        | cons q a ih =>
          intro hq
          rw [List.map_cons, List.mem_cons, not_or] at hq
          rw [setA, if_neg (fun e => hq.1 e.symm), ih hq.2]
      rw [if_pos e, hn a (by rw [← e]; exact nd.1), Ew, Ew, e]
      grind
    · next e =>
      rw [if_neg e, Ew, Ew, ih nd.2 h]
      grind
/-- a dict a that counts the weights ps -/
structure IsD (a ps : Wt) : Prop where
  nd : (a.map (·.1)).Nodup
  pos : ∀ p ∈ a, 0 < p.2
  sim : Sim a ps
theorem IsD.nil : IsD [] [] := ⟨List.nodup_nil, fun _ h => (nomatch h), fun _ => rfl⟩
def addA (a : Wt) (x m : Int) : Wt := putA a x ((lookA a x).getD 0 + m)
theorem IsD.add {a ps : Wt} (h : IsD a ps) {x m : Int} (hm : 0 < m) : IsD (addA a x m) (ps ++ [(x, m)]) := by
  unfold addA putA
  by_cases hx : x ∈ a.map (·.1)
  · rw [if_pos (hasA_mem.mpr hx)]
    obtain ⟨p, hp, e⟩ := List.mem_map.mp hx
    subst e
    have hl : lookA a p.1 = some p.2 := lookA_mem h.nd hp
    rw [hl]
    refine ⟨by rw [setA_keys]; exact h.nd, fun q hq => ?_, fun f => ?_⟩
    · have key : ∀ (a : Wt) (n : Int), 0 < n → (∀ p ∈ a, 0 < p.2) → ∀ q ∈ setA a p.1 n, 0 < q.2 := by
        intro a n hn
        induction a with
        | nil => intro _ q hq; cases hq
        | cons r a ih =>
          intro hp q hq
          rw [setA] at hq
          rcases List.mem_cons.mp hq with e | hq
          · subst e
            split
            · exact hn
            · exact hp r List.mem_cons_self
          · exact ih (fun s hs => hp s (List.mem_cons_of_mem _ hs)) q hq
      exact key a _ (by have := h.pos p hp; simp; omega) h.pos q hq
    · rw [Ew_setA h.nd hl, Ew_app, h.sim f]
      simp only [Ew, Option.getD_some]
      push_cast
      grind
  · rw [if_neg (fun e => hx (hasA_mem.mp e)), lookA_none hx]
    refine ⟨?_, fun q hq => ?_, fun f => ?_⟩
    · rw [List.map_append, List.nodup_append]
      refine ⟨h.nd, by simp, fun y hy z hz e => ?_⟩
      simp at hz
      subst e; subst hz
      exact hx hy
    · rcases List.mem_append.mp hq with hq | hq
      · exact h.pos q hq
      · rw [List.mem_singleton.mp hq]; simpa using hm
    · rw [Ew_app, Ew_app, h.sim f]
      simp [Ew]
theorem IsD.sim' {a ps qs : Wt} (h : IsD a ps) (s : Sim ps qs) : IsD a qs := ⟨h.nd, h.pos, h.sim.trans s⟩
/-- the sums at one whole -/
def ind (x : Int) : Int → Rat := fun w => if w = x then 1 else 0
theorem Ew_ind_none {a : Wt} {x : Int} (h : x ∉ a.map (·.1)) : Ew a (ind x) = 0 := by
  induction a with
  | nil => rfl
  | cons p a ih =>
    rw [List.map_cons, List.mem_cons, not_or] at h
    rw [Ew, ih h.2]
    unfold ind
    rw [if_neg (fun e => h.1 e.symm)]
    grind
theorem Ew_ind_mem {a : Wt} {x n : Int} (nd : (a.map (·.1)).Nodup) (h : (x, n) ∈ a) : Ew a (ind x) = n := by
  induction a with
  | nil => cases h
  | cons p a ih =>
    rw [List.map_cons, List.nodup_cons] at nd
    rw [Ew]
    rcases List.mem_cons.mp h with e | h
    · subst e
      rw [Ew_ind_none nd.1]
      unfold ind
      rw [if_pos rfl]
      grind
    · have hne : p.1 ≠ x := fun e => nd.1 (by rw [e]; exact List.mem_map.mpr ⟨_, h, rfl⟩)
      rw [ih nd.2 h]
      unfold ind
      rw [if_neg hne]
      grind
theorem Ew_ind_pos {a : Wt} {x : Int} (hp : ∀ p ∈ a, 0 < p.2) (h : x ∈ a.map (·.1)) : 0 < Ew a (ind x) := by
  have nn : ∀ a : Wt, (∀ p ∈ a, 0 < p.2) → 0 ≤ Ew a (ind x) := fun a hp => by
    have := Ew_le (a := a) (f := fun _ => 0) (g := ind x) fun p hq => ⟨by have := hp p hq; omega, by
      show (0 : Rat) ≤ ind x p.1
      unfold ind
      split <;> decide +kernel⟩
    rwa [Ew_zero] at this
  induction a with
  | nil => cases h
  | cons p a ih =>
    rw [List.map_cons, List.mem_cons] at h
    rw [Ew]
    have h0 := nn a fun q hq => hp q (List.mem_cons_of_mem _ hq)
    have h1 : (0 : Rat) < (p.2 : Rat) := by exact_mod_cast hp p List.mem_cons_self
    rcases h with h | h
    · unfold ind at h0 ⊢
      rw [if_pos h.symm]
      grind
    · have h2 := ih (fun q hq => hp q (List.mem_cons_of_mem _ hq)) h
      have h3 : 0 ≤ ind x p.1 := by unfold ind; split <;> decide +kernel
      have h4 : 0 ≤ (p.2 : Rat) * ind x p.1 := Rat.mul_nonneg (by grind) h3
      grind
theorem Sim.keys {a b : Wt} (s : Sim a b) (ha : ∀ p ∈ a, 0 < p.2) (hb : ∀ p ∈ b, 0 < p.2) (x : Int) : x ∈ a.map (·.1) ↔ x ∈ b.map (·.1) := by
  constructor
  · intro h
    have h1 := Ew_ind_pos ha h
    rw [s] at h1
    exact Classical.byContradiction fun hn => by rw [Ew_ind_none hn] at h1; exact absurd h1 (by decide +kernel)
  · intro h
    have h1 := Ew_ind_pos hb h
    rw [← s] at h1
    exact Classical.byContradiction fun hn => by rw [Ew_ind_none hn] at h1; exact absurd h1 (by decide +kernel)
theorem sub_len : ∀ {l l' : List Int}, l.Nodup → (∀ x ∈ l, x ∈ l') → l.length ≤ l'.length := fun {l l'} nd h => by
  induction l generalizing l' with
  | nil => simp
  | cons x l ih =>
    rw [List.nodup_cons] at nd
    have hx := h x List.mem_cons_self
    have h2 := ih (l' := l'.erase x) nd.2 fun y hy => by
      have hne : y ≠ x := fun e => nd.1 (by rw [← e]; exact hy)
      exact (List.mem_erase_of_ne hne).mpr (h y (List.mem_cons_of_mem _ hy))
    rw [List.length_erase_of_mem hx] at h2
    have := List.length_pos_of_mem hx
    rw [List.length_cons]
    omega
theorem eqK_is {a b ps qs : Wt} (ha : IsD a ps) (hb : IsD b qs) (s : Sim ps qs) : eqK (.dict (encD a)) (.dict (encD b)) = some true := by
  have sab : Sim a b := (ha.sim.trans s).trans hb.sim.symm
  have kab := sab.keys ha.pos hb.pos
  have hl : a.length = b.length := by
    have h1 := sub_len ha.nd fun x hx => (kab x).mp hx
    have h2 := sub_len hb.nd fun x hx => (kab x).mpr hx
    rw [List.length_map, List.length_map] at h1 h2
    omega
  have hc : (decide ((encD a).length = (encD b).length) && (encD a).all (hitK (encD b))) = true := by
    rw [Bool.and_eq_true, decide_eq_true_eq]
    refine ⟨by unfold encD; rw [List.length_map, List.length_map, hl], List.all_eq_true.mpr fun q hq => ?_⟩
    obtain ⟨p, hp, e⟩ := List.mem_map.mp hq
    subst e
    have h1 := Ew_ind_mem ha.nd (x := p.1) (n := p.2) hp
    rw [sab] at h1
    have hx : p.1 ∈ b.map (·.1) := (kab _).mp (List.mem_map.mpr ⟨p, hp, rfl⟩)
    obtain ⟨r, hr, er⟩ := List.mem_map.mp hx
    have h2 := Ew_ind_mem hb.nd (x := r.1) (n := r.2) hr
    rw [er] at h2
    rw [h1] at h2
    have h3 : p.2 = r.2 := by exact_mod_cast h2
    have h4 : lookA b p.1 = some p.2 := by rw [h3, ← er]; exact lookA_mem hb.nd hr
    unfold hitK
    show (match keyK (.int p.1) with | some k => _ | none => false) = true
    rw [d_keyI]
    show (match lookK (encD b) (.inl p.1) with | some d => scS (.int p.2) d | none => false) = true
    rw [look_enc, h4]
    show decide (p.2 = p.2) = true
    exact decide_eq_true rfl
  show (if (decide ((encD a).length = (encD b).length) && (encD a).all (hitK (encD b))) = true then some true else none) = some true
  rw [if_pos hc]
end K54

set_option Elab.async false
set_option linter.all false
set_option maxRecDepth 100000
/-! k54: what the defs give, part 1: the chains that the law draws, and that they are chains. -/
namespace K54
open PySem DL
def encE (p : Int × Int) : PyData := .tuple [.int p.1, .int p.2]
def encL (l : Link) : PyData := .tuple [.int l.sign, .int l.size, .list (l.errs.map encE)]
def encC (c : List Link) : PyData := .list (c.map encL)
theorem draws_F (ns : List Int) : ∃ ds, Drawn ds ∧ ds.length ≤ 3780 ∧ F__law_draws ns = some (.l (ds.map PyData.int)) := draws_is ns
theorem mix_F {ds : List Int} (hd : Drawn ds) {k many : Int} (h0 : 0 ≤ k) (h1 : k < 2 ^ 64) (hm : 0 < many) : F__law_mix [encI ds, .int k, .int many] = some (.p (.int (mixT ds k many))) := mix_is hd h0 h1 hm
theorem insI_len (k : Int) (l : List Int) : (insI k l).length ≤ l.length + 1 := by
  induction l with
  | nil => simp [insI]
  | cons x l ih =>
    unfold insI
    split
    · simp
    · split
      · simp
      · simp; exact ih
theorem dedupI_len (l : List Int) : (dedupI l).length ≤ l.length := by
  induction l with
  | nil => simp [dedupI]
  | cons x l ih =>
    show (insI x (dedupI l)).length ≤ _
    have := insI_len x (dedupI l)
    rw [List.length_cons]; omega
theorem intsD_ints (ns : List Int) : intsD (ns.map PyData.int) = some ns := by
  induction ns with
  | nil => rfl
  | cons n ns ih =>
    show (intsD (ns.map PyData.int)).map (n :: ·) = _
    rw [ih]; rfl
theorem sset_is {ns : List Int} (h : ns.length < 64) : sortedSetS (.list (ns.map PyData.int)) = some (.l ((dedupI ns).map PyData.int)) := by
  show (intsD (ns.map PyData.int)).bind _ = _
  rw [intsD_ints]
  show (if ns.length < 64 then _ else _) = _
  rw [if_pos h]
/-- the errors of one link -/
theorem errs_is {ds : List Int} (hd : Drawn ds) (x3 : Sl) (k most t : PyData) {at_ : Int} (ha : 0 ≤ at_) (ha2 : at_ < 100000) (es : List Int) (hes : es.length ≤ 3) :
    ∃ a : Wt, a.map (·.1) = es ∧ (∀ p ∈ a, 1 ≤ p.2 ∧ p.2 ≤ 4) ∧ loopD [7] (.n 7) b__law_chain_2 (es.map PyData.int) [some (.p (encI ds)), some (.p k), some (.p most), some x3, some (.p t), some (.p (.int at_)), some (.l []), none, none] =
      some (.nx [some (.p (encI ds)), some (.p k), some (.p most), some x3, some (.p t), some (.p (.int at_)), some (.l (a.map encE)), none, none]) := by
  obtain ⟨a, e, h1, h2⟩ := loop_st (fs := [7]) (p := .n 7) (gb := b__law_chain_2) PyData.int (fun a : Wt => [some (.p (encI ds)), some (.p k), some (.p most), some x3, some (.p t), some (.p (.int at_)), some (.l (a.map encE)), none, none])
    (fun pre a => a.map (·.1) = pre ∧ ∀ p ∈ a, 1 ≤ p.2 ∧ p.2 ≤ 4) es [] ⟨rfl, fun _ h => (nomatch h)⟩ fun pre x post a e ⟨g1, g2⟩ => by
      have hl : a.length < 3 := by
        have := pre_lt e
        have := congrArg List.length g1
        rw [List.length_map] at this
        omega
      have m := mix_F hd (k := at_ + 6 + (a.length : Int)) (many := 4) (by omega) (by omega) (by omega)
      obtain ⟨m0, m1⟩ := mixT_pos ds (at_ + 6 + (a.length : Int)) (many := 4) (by omega)
      have ap := fun d => d_app (ds := a.map encE) (d := d) (by rw [List.length_map]; omega)
      refine ⟨a ++ [(x, 1 + mixT ds (at_ + 6 + (a.length : Int)) 4)], ?_, by rw [List.map_append, g1]; rfl, fun p hp => ?_⟩
      · simp [turn, b__law_chain_2, m, tupD, ownL, encE, ap]
      · rcases List.mem_append.mp hp with hp | hp
        · exact g2 p hp
        · rw [List.mem_singleton.mp hp]; constructor <;> simp <;> omega
  exact ⟨a, h1, h2, e⟩
theorem chain_is {ds : List Int} (hd : Drawn ds) {k most : Int} (hk : 0 ≤ k) (hk2 : k ≤ 1000) (hm : 1 ≤ most) (hm2 : most ≤ 8) :
    ∃ c : List Link, 1 ≤ c.length ∧ (c.length : Int) ≤ most ∧ (∀ l ∈ c, Good l) ∧ F__law_chain [encI ds, .int k, .int most] = some (.l (c.map encL)) := by
  obtain ⟨m0, m1⟩ := mixT_pos ds k (many := most) (by omega)
  obtain ⟨n, hn⟩ : ∃ n : Nat, (n : Int) = 1 + mixT ds k most := ⟨(1 + mixT ds k most).toNat, by omega⟩
  have mx := mix_F hd (k := k) (many := most) hk (by omega) (by omega)
  obtain ⟨c, e, h1, h2⟩ := loop_st (fs := [4, 5, 6, 7]) (p := .n 4) (gb := b__law_chain_3) (fun i : Nat => PyData.int (0 + (i : Nat))) (fun c : List Link => [some (.p (encI ds)), some (.p (.int k)), some (.p (.int most)), some (.l (c.map encL)), none, none, none, none, none])
    (fun pre c => c.length = pre.length ∧ ∀ l ∈ c, Good l) (List.range n) [] ⟨rfl, fun _ h => (nomatch h)⟩ fun pre x post c e ⟨g1, g2⟩ => by
      have hx : x < n := by simpa using mem_mid e
      have hp : pre.length < n := by simpa using pre_lt e
      have hx8 : (x : Int) < 8 := by omega
      have mt : mulS (.int 12) (.int x) = some (.p (.int (12 * x))) := d_mulB (a := 4) (b := 4) (by decide) (by omega) (by decide)
      have mx1 := mix_F hd (k := k + 1 + 12 * x + 1) (many := 3) (by omega) (by omega) (by omega)
      obtain ⟨q0, q1⟩ := mixT_pos ds (k + 1 + 12 * x + 1) (many := 3) (by omega)
      obtain ⟨j, hj⟩ : ∃ j : Nat, (j : Int) = 1 + mixT ds (k + 1 + 12 * x + 1) 3 := ⟨(1 + mixT ds (k + 1 + 12 * x + 1) 3).toNat, by omega⟩
      have rj := d_range1 (n := j) (by omega)
      rw [hj] at rj
      have cm := comp_map (p := .n 8) (ft := fYes) (fe := b__law_chain_1) (ρ := [some (.p (encI ds)), some (.p (.int k)), some (.p (.int most)), some (.l (c.map encL)), some (.p (.int x)), some (.p (.int (k + 1 + 12 * x))), some (.l []), none, none])
        (fun i : Nat => PyData.int (0 + (i : Nat))) (fun i => .int (mixT ds (k + 1 + 12 * x + 2 + i) 11 - 5)) (List.range j) fun i hi => by
          have hi : i < j := by simpa using hi
          have m := mix_F hd (k := k + 1 + 12 * x + 2 + i) (many := 11) (by omega) (by omega) (by omega)
          exact ⟨_, pm_n _ _ _, rfl, by simp [b__law_chain_1, m]⟩
      have cm' : (List.range j).map (fun i : Nat => PyData.int (mixT ds (k + 1 + 12 * x + 2 + i) 11 - 5)) = ((List.range j).map fun i : Nat => mixT ds (k + 1 + 12 * x + 2 + i) 11 - 5).map PyData.int := by rw [List.map_map]; rfl
      rw [cm'] at cm
      generalize hes : ((List.range j).map fun i : Nat => mixT ds (k + 1 + 12 * x + 2 + i) 11 - 5) = es at cm
      have esl : es.length = j := by rw [← hes]; simp
      have ss := sset_is (ns := es) (by omega)
      obtain ⟨a, a1, a2, a3⟩ := errs_is hd (.l (c.map encL)) (.int k) (.int most) (.int x) (at_ := k + 1 + 12 * x) (by omega) (by omega) (dedupI es) (by have := dedupI_len es; omega)
      have mx2 := mix_F hd (k := k + 1 + 12 * x) (many := 2) (by omega) (by omega) (by omega)
      obtain ⟨s0, s1⟩ := mixT_pos ds (k + 1 + 12 * x) (many := 2) (by omega)
      have mx3 := mix_F hd (k := k + 1 + 12 * x + 10) (many := 30) (by omega) (by omega) (by omega)
      obtain ⟨z0, z1⟩ := mixT_pos ds (k + 1 + 12 * x + 10) (many := 30) (by omega)
      have m2 : mulS (.int 2) (.int (mixT ds (k + 1 + 12 * x) 2)) = some (.p (.int (2 * mixT ds (k + 1 + 12 * x) 2))) := d_mulB (a := 2) (b := 2) (by decide) (by omega) (by decide)
      have gl : Good ⟨1 - 2 * mixT ds (k + 1 + 12 * x) 2, mixT ds (k + 1 + 12 * x + 10) 30, a⟩ := by
        have dl := dedupI_len es
        have al : a.length = (dedupI es).length := by rw [← a1, List.length_map]
        refine ⟨by show 1 - 2 * mixT ds (k + 1 + 12 * x) 2 = 1 ∨ 1 - 2 * mixT ds (k + 1 + 12 * x) 2 = -1; omega, z0, z1, ?_, by show a.length ≤ 3; omega, fun p hp => ?_, ?_⟩
        · show 1 ≤ a.length
          rw [al]
          have : es ≠ [] := fun z => by rw [z] at esl; simp at esl; omega
          obtain ⟨y, r, hy⟩ : ∃ y r, es = y :: r := by
            cases es with
            | nil => exact absurd rfl this
            | cons y r => exact ⟨y, r, rfl⟩
          have : y ∈ dedupI es := ((dedupI_spec es).2 y).mpr (by rw [hy]; exact List.mem_cons_self)
          exact List.length_pos_of_mem this
        · have h1 : p.1 ∈ es := ((dedupI_spec es).2 p.1).mp (by rw [← a1]; exact List.mem_map.mpr ⟨p, hp, rfl⟩)
          rw [← hes] at h1
          obtain ⟨i, _, hi⟩ := List.mem_map.mp h1
          obtain ⟨w0, w1⟩ := mixT_pos ds (k + 1 + 12 * x + 2 + i) (many := 11) (by omega)
          have := a2 p hp
          omega
        · have := (dedupI_spec es).1
          rw [← a1, List.pairwise_map] at this
          exact this
      have ap1 := fun d => d_app (ds := c.map encL) (d := d) (by rw [List.length_map]; omega)
      refine ⟨c ++ [⟨1 - 2 * mixT ds (k + 1 + 12 * x) 2, mixT ds (k + 1 + 12 * x + 10) 30, a⟩], ?_, by simp [g1], fun l hl => ?_⟩
      · simp at cm rj
        simp [turn, b__law_chain_3, mt, mx1, rj, cm, ss, a3, mx2, mx3, m2, tupD, lstS, ownL, relE, encL, ap1]
      · rcases List.mem_append.mp hl with hl | hl
        · exact g2 l hl
        · rw [List.mem_singleton.mp hl]; exact gl
  have rg := d_range1 (n := n) (by omega)
  rw [hn] at rg
  refine ⟨c, by simp at h1; omega, by simp at h1; omega, h2, run_of rfl ?_⟩
  simp at e rg
  simp [g__law_chain, enStart, lstS, mx, rg, e, endD]
end K54

set_option Elab.async false
set_option linter.all false
set_option maxRecDepth 100000
/-! k54: what the defs give, part 2: checks. -/
namespace K54
open PySem DL
theorem errs_at (l : Wt) {i : Nat} {p : Int × Int} (h : l[i]? = some p) : L2.atI (l.map encE) (i : Int) = some (encE p) := at_nat (by rw [List.getElem?_map, h]; rfl)
theorem notin_sign {s : Int} (h : s = 1 ∨ s = -1) : notinD (.int s) (.tuple [.int 1, .int (-1)]) = some (.bool false) := by
  rcases h with h | h <;> subst h <;> rfl
theorem isLink_is {l : Link} (g : Good l) : F_is_link [encL l] = some (.p (.bool true)) := by
  have ns := notin_sign g.sg
  have z0 := g.z0
  have z1 := g.z1
  have n0 := g.n0
  have n1 := g.n1
  have e := loop_fn (fs := [4, 5, 6]) (p := .t [(.n 4), (.t [(.n 5), (.n 6)])]) (gb := b_is_link_1) (fun q : (Int × Int) × Nat => .tuple [.int (q.2 : Nat), encE q.1]) (fun _ => [some (.p (encL l)), some (.p (.int l.sign)), some (.p (.int l.size)), some (.p (.list (l.errs.map encE))), none, none, none])
    l.errs.zipIdx fun pre q post e => by
      obtain ⟨h1, h2⟩ := enum_at e
      obtain ⟨⟨err, cnt⟩, i⟩ := q
      simp at h1 h2
      have hm : (err, cnt) ∈ l.errs := List.mem_of_getElem? h2
      have hg := g.er _ hm
      simp at hg
      by_cases hi : 0 < (i : Int)
      · obtain ⟨⟨e2, c2⟩, hq⟩ : ∃ q, l.errs[pre.length - 1]? = some q := by
          have hl : pre.length < l.errs.length := (List.getElem?_eq_some_iff.mp h2).1
          exact ⟨l.errs[pre.length - 1], List.getElem?_eq_getElem (by omega)⟩
        have hlt : e2 < err := by
          obtain ⟨a1, a2⟩ := List.getElem?_eq_some_iff.mp hq
          obtain ⟨b1, b2⟩ := List.getElem?_eq_some_iff.mp h2
          have := List.pairwise_iff_getElem.mp g.asc (pre.length - 1) pre.length a1 b1 (by omega)
          rw [a2, b2] at this
          exact this
        have at1 : L2.atI (l.errs.map encE) ((i : Int) - 1) = some (.tuple [.int e2, .int c2]) := by
          have := errs_at l.errs hq
          have e : ((pre.length - 1 : Nat) : Int) = (i : Int) - 1 := by omega
          rw [e] at this
          exact this
        have c1 : -50 ≤ err := by omega
        have c2' : err ≤ 50 := by omega
        have c3 : 1 ≤ cnt := by omega
        have c4 : cnt ≤ 100 := by omega
        have c5 : ¬ err ≤ e2 := by omega
        have hi' : 0 < i := by omega
        simp [turn, b_is_link_1, encE, c1, c2', c3, c4, hi', at1, c5]
      · have c1 : -50 ≤ err := by omega
        have c2' : err ≤ 50 := by omega
        have c3 : 1 ≤ cnt := by omega
        have c4 : cnt ≤ 100 := by omega
        have hi' : i = 0 := by omega
        subst hi'
        simp [turn, b_is_link_1, encE, c1, c2', c3, c4]
  refine run_of rfl ?_
  have k1 : l.size ≤ 1000 := by omega
  have k2 : (1 : Int) ≤ l.errs.length := by omega
  have k3 : ((l.errs.length : Nat) : Int) ≤ 6 := by omega
  unfold encL at e
  have e' := enum_map encE l.errs
  rw [← e'] at e
  simp [g_is_link, enStart, encL, ns, z0, k1, k2, k3, e, endD]
/-- a chain that the law may hand on -/
structure GoodC (c : List Link) : Prop where
  n0 : 1 ≤ c.length
  n1 : c.length ≤ 8
  gl : ∀ l ∈ c, Good l
theorem check_is {c : List Link} (g : GoodC c) : F_check_chain [encC c] = some (.p .none) := by
  have n0 := g.n0
  have n1 := g.n1
  have e := loop_fn (fs := [1, 2]) (p := .t [(.n 1), (.n 2)]) (gb := b_check_chain_1) (fun q : Link × Nat => .tuple [.int (q.2 : Nat), encL q.1]) (fun _ => [some (.p (encC c)), none, none])
    c.zipIdx fun pre q post e => by
      obtain ⟨h1, h2⟩ := enum_at e
      have := isLink_is (g.gl q.1 (List.mem_of_getElem? h2))
      simp [turn, b_check_chain_1, this]
  rw [← enum_map encL c] at e
  refine run_of rfl ?_
  have k2 : (1 : Int) ≤ c.length := by omega
  have k3 : ((c.length : Nat) : Int) ≤ 8 := by omega
  unfold encC at e
  simp [g_check_chain, enStart, encC, k2, k3, e, endD]
end K54

set_option Elab.async false
set_option linter.all false
set_option maxRecDepth 100000
/-! k54: what the defs give, part 3: the ways. -/
namespace K54
open PySem DL
theorem step_app (a b : Wt) (l : Link) : step (a ++ b) l = step a l ++ step b l := by simp [step]
theorem step_one (p : Int × Int) (l : Link) : step [p] l = l.errs.map fun e => (p.1 + l.sign * (l.size + e.1), p.2 * e.2) := by simp [step]
theorem link_b {l : Link} (g : Good l) {e : Int × Int} (he : e ∈ l.errs) : (l.sign * (l.size + e.1)).natAbs ≤ 35 ∧ 1 ≤ e.2 ∧ e.2 ≤ 4 := by
  obtain ⟨h1, h2, h3, h4⟩ := g.er e he
  have := g.z0
  have := g.z1
  refine ⟨?_, h3, h4⟩
  rcases g.sg with h | h <;> rw [h] <;> omega
theorem mul_pos' {a b : Int} (h1 : 1 ≤ a) (h2 : 1 ≤ b) : 1 ≤ a * b := by
  have := Int.mul_le_mul h1 h2 (by omega) (by omega)
  omega
theorem mul_le4 {a b n : Int} (h1 : a ≤ n) (h2 : b ≤ 4) (h0 : 0 ≤ b) (hn : 0 ≤ n) : a * b ≤ n * 4 := Int.mul_le_mul h1 h2 h0 hn
theorem ways_bd : ∀ c : List Link, (∀ l ∈ c, Good l) → (∀ p ∈ ways c, 1 ≤ p.2 ∧ p.2 ≤ ((4 ^ c.length : Nat) : Int) ∧ p.1.natAbs ≤ 35 * c.length) ∧ (ways c).length ≤ 3 ^ c.length := by
  refine rev_ind (fun _ => ⟨fun p hp => by rw [List.mem_singleton.mp (show p ∈ [((0 : Int), (1 : Int))] from hp)]; decide, by decide⟩) fun c l ih h => ?_
  obtain ⟨h1, h2⟩ := good_app h
  obtain ⟨i1, i2⟩ := ih h1
  rw [ways_app, List.length_append, List.length_singleton, Nat.pow_succ, Nat.pow_succ]
  refine ⟨fun q hq => ?_, ?_⟩
  · unfold step at hq
    obtain ⟨p, hp, hq⟩ := List.mem_flatMap.mp hq
    obtain ⟨e, he, hq⟩ := List.mem_map.mp hq
    subst hq
    obtain ⟨a1, a2, a3⟩ := i1 p hp
    obtain ⟨b1, b2, b3⟩ := link_b h2 he
    refine ⟨mul_pos' a1 b2, ?_, ?_⟩
    · have := mul_le4 a2 b3 (by omega) (by omega)
      push_cast at this ⊢
      exact this
    · have := Int.natAbs_add_le p.1 (l.sign * (l.size + e.1))
      show (p.1 + l.sign * (l.size + e.1)).natAbs ≤ _
      omega
  · have key : ∀ a : Wt, (step a l).length ≤ a.length * 3 := by
      intro a
      induction a with
      | nil => simp [step]
      | cons p a ih =>
        have e : p :: a = [p] ++ a := rfl
        rw [e, step_app, List.length_append, step_one, List.length_map, List.length_append, List.length_singleton]
        have := h2.n1
        omega
    have := key (ways c)
    omega
theorem pow_small {c n : Nat} (h : c ≤ 8) : (4 : Nat) ^ c ≤ 65536 ∧ 3 ^ c ≤ 6561 := by
  have h1 := Nat.pow_le_pow_right (n := 4) (by decide) h
  have h2 := Nat.pow_le_pow_right (n := 3) (by decide) h
  have e1 : (4 : Nat) ^ 8 = 65536 := by decide
  have e2 : (3 : Nat) ^ 8 = 6561 := by decide
  omega
theorem IsD.len {a ps : Wt} (h : IsD a ps) (hp : ∀ p ∈ ps, 0 < p.2) : a.length ≤ ps.length := by
  have := sub_len (l := a.map (·.1)) (l' := ps.map (·.1)) h.nd fun x hx => (h.sim.keys h.pos hp x).mp hx
  rwa [List.length_map, List.length_map] at this
theorem encD_len (a : Wt) : (encD a).length = a.length := by unfold encD; rw [List.length_map]
theorem itemL_enc (a : Wt) : itemL (encD a) = a.map encE := by unfold itemL encD; rw [List.map_map]; rfl
theorem look_add (a : Wt) (x : Int) : (lookK (encD a) (.inl x)).getD (.int 0) = .int ((lookA a x).getD 0) := by
  rw [look_enc]
  cases lookA a x <;> rfl
/-- the value at a key, a number more -/
theorem put_add (a : Wt) (x m : Int) : putD (encD a) (.inl x) (.int ((lookA a x).getD 0 + m)) = encD (addA a x m) := put_enc a x _
theorem lawWays_is {c : List Link} (g : GoodC c) : ∃ a : Wt, IsD a (ways c) ∧ F__law_ways [encC c] = some (.k (encD a)) := by
  have n1 := g.n1
  -- the list of all ways
  have e1 := loop_fn (fs := [2, 3, 4, 5, 6, 7]) (p := .t [(.n 2), (.n 3), (.n 4)]) (gb := b__law_ways_4) encL (fun pre => [some (.p (encC c)), some (.p (.list ((ways pre).map encE))), none, none, none, none, none, none, none, none, none]) c fun pre l post e => by
    have hl : pre.length < c.length := pre_lt e
    have gl : Good l := g.gl l (mem_mid e)
    have gp : ∀ k ∈ pre, Good k := fun k hk => g.gl k (by rw [e]; simp [hk])
    obtain ⟨wb, wl⟩ := ways_bd pre gp
    obtain ⟨p4, p3⟩ := pow_small (c := pre.length) (n := 0) (by omega)
    have e2 := loop_fn (fs := [6, 7]) (p := .t [(.n 6), (.n 7)]) (gb := b__law_ways_3) encE (fun w => [some (.p (encC c)), some (.p (.list ((ways pre).map encE))), some (.p (.int l.sign)), some (.p (.int l.size)), some (.p (.list (l.errs.map encE))), some (.p (.list ((step w l).map encE))), none, none, none, none, none]) (ways pre) fun w p post2 e3 => by
      have hp : p ∈ ways pre := mem_mid e3
      obtain ⟨a1, a2, a3⟩ := wb p hp
      have cm := comp_map (p := .t [(.n 9), (.n 10)]) (ft := fYes) (fe := b__law_ways_2) (ρ := [some (.p (encC c)), some (.p (.list ((ways pre).map encE))), some (.p (.int l.sign)), some (.p (.int l.size)), some (.p (.list (l.errs.map encE))), some (.p (.list ((step w l).map encE))), some (.p (.int p.1)), some (.p (.int p.2)), none, none, none])
        encE (fun q => encE (p.1 + l.sign * (l.size + q.1), p.2 * q.2)) l.errs fun q hq => by
          obtain ⟨b1, b2, b3⟩ := link_b gl hq
          have z0 := gl.z0
          have z1 := gl.z1
          have er := gl.er q hq
          have m1 : mulS (.int l.sign) (.int (l.size + q.1)) = some (.p (.int (l.sign * (l.size + q.1)))) := d_mulB (a := 2) (b := 8) (by rcases gl.sg with h | h <;> rw [h] <;> decide) (by omega) (by decide)
          have m2 : mulS (.int p.2) (.int q.2) = some (.p (.int (p.2 * q.2))) := d_mulB (a := 20) (b := 4) (by omega) (by omega) (by decide)
          exact ⟨_, by simp [encE]; rfl, rfl, by simp [b__law_ways_2, encE, m1, m2]⟩
      have hs : step (w ++ [p]) l = step w l ++ l.errs.map fun q => (p.1 + l.sign * (l.size + q.1), p.2 * q.2) := by rw [step_app, step_one]
      have hcm : l.errs.map (fun q => encE (p.1 + l.sign * (l.size + q.1), p.2 * q.2)) = (l.errs.map fun q => (p.1 + l.sign * (l.size + q.1), p.2 * q.2)).map encE := by rw [List.map_map]; rfl
      have wlen : w.length ≤ (ways pre).length := by rw [e3]; simp
      have slen : ∀ a : Wt, (step a l).length ≤ a.length * 3 := by
        intro a
        induction a with
        | nil => simp [step]
        | cons p a ih =>
          have e : p :: a = [p] ++ a := rfl
          rw [e, step_app, List.length_append, step_one, List.length_map, List.length_append, List.length_singleton]
          have := gl.n1
          omega
      have := slen w
      have := gl.n1
      have ad : addS (.list ((step w l).map encE)) (.list ((l.errs.map fun q => (p.1 + l.sign * (l.size + q.1), p.2 * q.2)).map encE)) = some (.l ((step w l).map encE ++ (l.errs.map fun q => (p.1 + l.sign * (l.size + q.1), p.2 * q.2)).map encE)) := by
        show (if _ then _ else _) = _
        rw [if_pos (by simp only [List.length_map, most_is]; omega)]
      rw [hcm] at cm
      rw [hs, List.map_append]
      simp only [encE] at cm ad ⊢
      simp [turn, b__law_ways_3, encE] at cm ad ⊢
      simp [cm, ad]
    rw [ways_app]
    simp [step] at e2
    simp [turn, b__law_ways_4, encL, lstS]
    simp [e2, step]
  obtain ⟨wb, wl⟩ := ways_bd c g.gl
  obtain ⟨p4, p3⟩ := pow_small (c := c.length) (n := 0) n1
  have wpos : ∀ p ∈ ways c, 0 < p.2 := fun p hp => by have := (wb p hp).1; omega
  -- counted
  obtain ⟨a, e2, ha⟩ := loop_st (fs := [6, 7]) (p := .t [(.n 6), (.n 7)]) (gb := b__law_ways_5) encE (fun a : Wt => [some (.p (encC c)), some (.p (.list ((ways c).map encE))), none, none, none, none, none, none, some (.k (encD a)), none, none]) (fun pre a => IsD a pre) (ways c) [] IsD.nil fun pre p post a e ha => by
    have hp : p ∈ ways c := mem_mid e
    have ppos : ∀ q ∈ pre, 0 < q.2 := fun q hq => wpos q (by rw [e]; simp [hq])
    have hlen := ha.len ppos
    have hpl : pre.length < (ways c).length := pre_lt e
    have hl : (encD a).length < 1000000 := by rw [encD_len]; omega
    refine ⟨addA a p.1 p.2, ?_, ha.add (by have := wpos p hp; omega)⟩
    simp [turn, b__law_ways_5, encE, look_add, ownK, put_add, hl]
  refine ⟨a, ha, run_of rfl ?_⟩
  have e10 : (ways []).map encE = [.tuple [.int 0, .int 1]] := rfl
  rw [e10] at e1
  have e20 : encD [] = [] := rfl
  rw [e20] at e2
  unfold encC at e1 e2
  simp [g__law_ways, enStart, encC, lstS, e1, e2, endD]
/-! ### ways_of -/
theorem Ew1_ge {a : Wt} (hp : ∀ p ∈ a, 0 < p.2) {p : Int × Int} (h : p ∈ a) : (p.2 : Rat) ≤ Ew a fun _ => 1 := by
  have nn : ∀ a : Wt, (∀ p ∈ a, 0 < p.2) → 0 ≤ Ew a (fun _ => 1) := fun a hp => by
    have := Ew_le (a := a) (f := fun _ => 0) (g := fun _ => 1) fun p hq => ⟨by have := hp p hq; omega, by decide +kernel⟩
    rwa [Ew_zero] at this
  induction a with
  | nil => cases h
  | cons q a ih =>
    rw [Ew]
    have h0 := nn a fun r hr => hp r (List.mem_cons_of_mem _ hr)
    have h1 : (0 : Rat) < (q.2 : Rat) := by exact_mod_cast hp q List.mem_cons_self
    rcases List.mem_cons.mp h with e | h
    · subst e; grind
    · have := ih (fun r hr => hp r (List.mem_cons_of_mem _ hr)) h
      grind
theorem tot_le {e : Wt} (h : e.length ≤ 3) (hp : ∀ p ∈ e, p.2 ≤ 4) : tot e ≤ 12 := by
  have key : ∀ e : Wt, (∀ p ∈ e, p.2 ≤ 4) → Ew e (fun _ => 1) ≤ 4 * (e.length : Rat) := by
    intro e
    induction e with
    | nil => intro _; simp [Ew]
    | cons p e ih =>
      intro hp
      have h1 := ih fun q hq => hp q (List.mem_cons_of_mem _ hq)
      have h2 : (p.2 : Rat) ≤ 4 := by exact_mod_cast hp p List.mem_cons_self
      rw [Ew, List.length_cons]
      push_cast
      grind
  have h1 := key e hp
  have h2 : (e.length : Rat) ≤ 3 := by exact_mod_cast h
  unfold tot
  grind
theorem Tc_le : ∀ c : List Link, (∀ l ∈ c, Good l) → Tc c ≤ ((12 ^ c.length : Nat) : Rat) := by
  refine rev_ind (fun _ => by unfold Tc ways from_; simp [Ew]; decide +kernel) fun c l ih h => ?_
  obtain ⟨h1, h2⟩ := good_app h
  have i := ih h1
  rw [Tc_app, List.length_append, List.length_singleton, Nat.pow_succ]
  have t12 := tot_le h2.n1 fun p hp => (h2.er p hp).2.2.2
  have t0 := h2.tot
  have c0 := Tc_pos c h1
  have : Tc c * tot l.errs ≤ Tc c * 12 := Rat.mul_le_mul_of_nonneg_left t12 (by grind)
  push_cast at i ⊢
  grind
theorem val_leN {a : Wt} {c : List Link} (h : IsD a (ways c)) (gl : ∀ l ∈ c, Good l) (N : Nat) (hN : 12 ^ c.length ≤ N) {p : Int × Int} (hp : p ∈ a) : p.2 ≤ (N : Int) := by
  have h1 := Ew1_ge h.pos hp
  rw [h.sim] at h1
  have h2 := Tc_le c gl
  have h4 : ((12 ^ c.length : Nat) : Rat) ≤ (N : Rat) := by exact_mod_cast hN
  have h5 : (p.2 : Rat) ≤ (N : Rat) := by
    have : Tc c = Ew (ways c) fun _ => 1 := rfl
    rw [this] at h2
    grind
  exact_mod_cast h5
theorem val_le {a : Wt} {c : List Link} (h : IsD a (ways c)) (gl : ∀ l ∈ c, Good l) (hc : c.length ≤ 8) {p : Int × Int} (hp : p ∈ a) : 0 < p.2 ∧ p.2 ≤ 429981696 := by
  refine ⟨h.pos p hp, val_leN h gl 429981696 ?_ hp⟩
  have h3 : (12 : Nat) ^ c.length ≤ 12 ^ 8 := Nat.pow_le_pow_right (by decide) hc
  have e : (12 : Nat) ^ 8 = 429981696 := by decide
  omega
/-- the dict that counts weights one after the other -/
def dictOf (ps : Wt) : Wt := ps.foldl (fun b q => addA b q.1 q.2) []
theorem dictOf_app (ps : Wt) (q : Int × Int) : dictOf (ps ++ [q]) = addA (dictOf ps) q.1 q.2 := by unfold dictOf; rw [List.foldl_append]; rfl
theorem isD_dictOf (ps : Wt) (h : ∀ p ∈ ps, 0 < p.2) : IsD (dictOf ps) ps := by
  have key : ∀ (qs : Wt), (∀ p ∈ qs, 0 < p.2) → ∀ (a ps : Wt), IsD a ps → IsD (qs.foldl (fun b q => addA b q.1 q.2) a) (ps ++ qs) := by
    intro qs
    induction qs with
    | nil => intro _ a ps h; simpa using h
    | cons q qs ih =>
      intro hq a ps ha
      have := ih (fun p hp => hq p (List.mem_cons_of_mem _ hp)) _ _ (ha.add (x := q.1) (hq q List.mem_cons_self))
      rw [List.append_assoc] at this
      exact this
  exact key ps h [] [] IsD.nil
theorem Sim.app {a b a' b' : Wt} (h : Sim a b) (h' : Sim a' b') : Sim (a ++ a') (b ++ b') := fun f => by rw [Ew_app, Ew_app, h, h']
theorem waysOf_is {c : List Link} (g : GoodC c) : ∃ a : Wt, IsD a (ways c) ∧ F_ways_of [encC c] = some (.k (encD a)) := by
  have n1 := g.n1
  obtain ⟨a, e1, ha⟩ := loop_st (fs := [2, 3, 4, 5, 6, 7, 8, 9, 10]) (p := .t [(.n 2), (.n 3), (.n 4)]) (gb := b_ways_of_3) encL (fun a : Wt => [some (.p (encC c)), some (.k (encD a)), none, none, none, none, none, none, none, none, none]) (fun pre a => IsD a (ways pre)) c [(0, 1)] ⟨by simp, by simp, fun _ => rfl⟩ fun pre l post a e ha => by
    have hl : pre.length < c.length := pre_lt e
    have gl : Good l := g.gl l (mem_mid e)
    have gp : ∀ k ∈ pre, Good k := fun k hk => g.gl k (by rw [e]; simp [hk])
    obtain ⟨wb, wl⟩ := ways_bd pre gp
    obtain ⟨p4, p3⟩ := pow_small (c := pre.length) (n := 0) (by omega)
    have wpos : ∀ p ∈ ways pre, 0 < p.2 := fun p hp => by have := (wb p hp).1; omega
    have alen := ha.len wpos
    have slen : ∀ a : Wt, (step a l).length ≤ a.length * 3 := by
      intro a
      induction a with
      | nil => simp [step]
      | cons p a ih =>
        have e : p :: a = [p] ++ a := rfl
        rw [e, step_app, List.length_append, step_one, List.length_map, List.length_append, List.length_singleton]
        have := gl.n1
        omega
    have abd : ∀ p ∈ a, p.1.natAbs ≤ 280 := fun p hp => by
      have hk : p.1 ∈ (ways pre).map (·.1) := (ha.sim.keys ha.pos wpos p.1).mp (List.mem_map.mpr ⟨p, hp, rfl⟩)
      obtain ⟨q, hq, eq⟩ := List.mem_map.mp hk
      have := (wb q hq).2.2
      rw [← eq]; omega
    have spos : ∀ b : Wt, (∀ p ∈ b, 0 < p.2) → ∀ q ∈ step b l, 0 < q.2 := fun b hb q hq => by
      unfold step at hq
      obtain ⟨p, hp, hq⟩ := List.mem_flatMap.mp hq
      obtain ⟨e, he, hq⟩ := List.mem_map.mp hq
      subst hq
      have h1 := hb p hp
      have h2 := (gl.er e he).2.2.1
      show 0 < p.2 * e.2
      exact Int.mul_pos h1 (by omega)
    -- one dict entry after the other, whatever the address of the walked one
    have all : ∀ x : Addr, loopD [6, 7, 8, 9, 10] (.t [(.n 6), (.n 7)]) b_ways_of_2 (a.map encE) [some (.p (encC c)), some (.q x), some (.p (.int l.sign)), some (.p (.int l.size)), some (.p (.list (l.errs.map encE))), some (.k (encD (dictOf (step [] l)))), none, none, none, none, none] =
        some (.nx [some (.p (encC c)), some (.q x), some (.p (.int l.sign)), some (.p (.int l.size)), some (.p (.list (l.errs.map encE))), some (.k (encD (dictOf (step a l)))), none, none, none, none, none]) := fun x => by
      refine loop_fn (fs := [6, 7, 8, 9, 10]) (p := .t [(.n 6), (.n 7)]) (gb := b_ways_of_2) encE (fun pre2 : Wt => [some (.p (encC c)), some (.q x), some (.p (.int l.sign)), some (.p (.int l.size)), some (.p (.list (l.errs.map encE))), some (.k (encD (dictOf (step pre2 l)))), none, none, none, none, none]) a fun pre2 p post2 e2 => ?_
      have hp : p ∈ a := mem_mid e2
      have hv := val_le ha gp (by omega) hp
      have hk := abd p hp
      have pos2 : ∀ q ∈ pre2, 0 < q.2 := fun q hq => ha.pos q (by rw [e2]; simp [hq])
      have p2l : pre2.length < a.length := pre_lt e2
      have sl2 := slen pre2
      have e3 := loop_fn (fs := [8, 9, 10]) (p := .t [(.n 8), (.n 9)]) (gb := b_ways_of_1) encE (fun pre3 : Wt => [some (.p (encC c)), some (.q x), some (.p (.int l.sign)), some (.p (.int l.size)), some (.p (.list (l.errs.map encE))), some (.k (encD (dictOf (step pre2 l ++ pre3.map fun q => (p.1 + l.sign * (l.size + q.1), p.2 * q.2))))), some (.p (.int p.1)), some (.p (.int p.2)), none, none, none])
        l.errs fun pre3 q post3 e4 => by
          have hq : q ∈ l.errs := mem_mid e4
          obtain ⟨b1, b2, b3⟩ := link_b gl hq
          have er := gl.er q hq
          have z0 := gl.z0
          have z1 := gl.z1
          have m1 : mulS (.int l.sign) (.int (l.size + q.1)) = some (.p (.int (l.sign * (l.size + q.1)))) := d_mulB (a := 2) (b := 8) (by rcases gl.sg with h | h <;> rw [h] <;> decide) (by omega) (by decide)
          have m2 : mulS (.int p.2) (.int q.2) = some (.p (.int (p.2 * q.2))) := d_mulB (a := 30) (b := 4) (by omega) (by omega) (by decide)
          have ppos : ∀ r ∈ step pre2 l ++ pre3.map (fun q => (p.1 + l.sign * (l.size + q.1), p.2 * q.2)), 0 < r.2 := fun r hr => by
            rcases List.mem_append.mp hr with hr | hr
            · exact spos pre2 pos2 r hr
            · obtain ⟨s, hs, es⟩ := List.mem_map.mp hr
              subst es
              have := (gl.er s (by rw [e4]; simp [hs])).2.2.1
              exact Int.mul_pos hv.1 (by omega)
          have blen := (isD_dictOf _ ppos).len ppos
          have p3l : pre3.length < l.errs.length := pre_lt e4
          have := gl.n1
          rw [List.length_append, List.length_map] at blen
          rw [List.map_append, ← List.append_assoc]
          rw [show (step pre2 l ++ pre3.map (fun q => (p.1 + l.sign * (l.size + q.1), p.2 * q.2)) ++ [q].map fun q => (p.1 + l.sign * (l.size + q.1), p.2 * q.2)) = step pre2 l ++ pre3.map (fun q => (p.1 + l.sign * (l.size + q.1), p.2 * q.2)) ++ [(p.1 + l.sign * (l.size + q.1), p.2 * q.2)] from rfl, dictOf_app]
          generalize dictOf (step pre2 l ++ pre3.map (fun q => (p.1 + l.sign * (l.size + q.1), p.2 * q.2))) = b at blen
          have hl : (encD b).length < 1000000 := by rw [encD_len]; omega
          simp [turn, b_ways_of_1, encE, m1, m2, look_add, ownK, put_add, hl]
      rw [step_app, step_one]
      simp [turn, b_ways_of_2, encE] at e3 ⊢
      simp [e3]
    have hb : IsD (dictOf (step a l)) (step a l) := isD_dictOf _ (spos a ha.pos)
    generalize dictOf (step a l) = b at all hb
    have bk := backO_nx (i := 1) (s := .k (encD a)) (L := fun ρ => loopD [6, 7, 8, 9, 10] (.t [(.n 6), (.n 7)]) b_ways_of_2 (itemL (encD a)) (DL.fgt [6, 7, 8, 9, 10] ρ))
      (ρ := [some (.p (encC c)), some (.k (encD a)), some (.p (.int l.sign)), some (.p (.int l.size)), some (.p (.list (l.errs.map encE))), some (.k []), none, none, none, none, none])
      (ρ' := [some (.p (encC c)), none, some (.p (.int l.sign)), some (.p (.int l.size)), some (.p (.list (l.errs.map encE))), some (.k (encD b)), none, none, none, none, none]) (by simp) fun x => by
        have := all x
        rw [itemL_enc]
        have e0 : encD (dictOf (step [] l)) = [] := rfl
        rw [e0] at this
        simp at this ⊢
        exact this
    refine ⟨b, ?_, ?_⟩
    · simp at bk
      simp [turn, b_ways_of_3, encL, gForK, ownK, bk, gMove, Sl.own]
    · rw [ways_app]
      exact hb.sim' (ha.sim.step l)
  refine ⟨a, ha, run_of rfl ?_⟩
  have e10 : encD [(0, 1)] = [(.int 0, .int 1)] := rfl
  rw [e10] at e1
  unfold encC at e1
  simp [g_ways_of, enStart, encC, disp1, kD, e1, endD]
end K54

set_option Elab.async false
set_option linter.all false
set_option maxRecDepth 100000
/-! k54: what the defs give, part 4: ends, mean, spread, share. -/
namespace K54
open PySem DL
theorem ways_F {c : List Link} (g : GoodC c) : ∃ a : Wt, IsD a (ways c) ∧ F_ways [encC c] = some (.k (encD a)) := by
  obtain ⟨a, ha, e⟩ := waysOf_is g
  refine ⟨a, ha, run_of rfl ?_⟩
  simp [g_ways, enStart, check_is g, e, endD]
/-! ### ends -/
def fstE (l : Link) : Int := (l.errs.headD (0, 0)).1
def lstE (l : Link) : Int := (l.errs.getLastD (0, 0)).1
def lowL (l : Link) : Int := min (l.sign * (l.size + fstE l)) (l.sign * (l.size + lstE l))
def highL (l : Link) : Int := max (l.sign * (l.size + fstE l)) (l.sign * (l.size + lstE l))
theorem ends_at {l : Link} (g : Good l) : ∃ p q : Int × Int, p ∈ l.errs ∧ q ∈ l.errs ∧ p.1 = fstE l ∧ q.1 = lstE l ∧ L2.atI (l.errs.map encE) 0 = some (encE p) ∧ L2.atI (l.errs.map encE) (-1) = some (encE q) := by
  obtain ⟨p, r, hr⟩ : ∃ p r, l.errs = p :: r := by
    cases h : l.errs with
    | nil => have := g.n0; rw [h] at this; simp at this
    | cons p r => exact ⟨p, r, rfl⟩
  obtain ⟨q, hq⟩ : ∃ q, l.errs.getLast? = some q := by
    rw [hr]; exact ⟨_, List.getLast?_eq_some_getLast (by simp)⟩
  refine ⟨p, q, by rw [hr]; exact List.mem_cons_self, List.mem_of_getLast? hq, by unfold fstE; rw [hr]; rfl, ?_, by rw [hr]; simp, at_last (by rw [List.getLast?_map, hq]; rfl)⟩
  unfold lstE
  rw [List.getLastD_eq_getLast?, hq]; rfl
theorem ends_b {l : Link} (g : Good l) : (l.size + fstE l).natAbs < 2 ^ 8 ∧ (l.size + lstE l).natAbs < 2 ^ 8 ∧ l.sign.natAbs < 2 ^ 1 := by
  obtain ⟨p, q, hp, hq, e1, e2, _⟩ := ends_at g
  have h1 := g.er p hp
  have h2 := g.er q hq
  have := g.z0
  have := g.z1
  rw [← e1, ← e2]
  exact ⟨by omega, by omega, by rcases g.sg with h | h <;> rw [h] <;> decide⟩
theorem ends_F {c : List Link} (g : GoodC c) : F_ends [encC c] = some (.p (.tuple [.int (c.map lowL).sum, .int (c.map highL).sum])) := by
  have c1 := comp_map (p := .t [(.n 3), (.n 4), (.n 5)]) (ft := fYes) (fe := b_ends_1) (ρ := [some (.p (encC c)), none, none, none, none, none]) encL (fun l => .int (lowL l)) c fun l hl => by
    have gl := g.gl l hl
    obtain ⟨p, q, _, _, e1, e2, e3, e4⟩ := ends_at gl
    obtain ⟨b1, b2, b3⟩ := ends_b gl
    have m1 : mulS (.int l.sign) (.int (l.size + p.1)) = some (.p (.int (l.sign * (l.size + p.1)))) := by rw [e1]; exact d_mulB b3 b1 (by decide)
    have m2 : mulS (.int l.sign) (.int (l.size + q.1)) = some (.p (.int (l.sign * (l.size + q.1)))) := by rw [e2]; exact d_mulB b3 b2 (by decide)
    exact ⟨_, by simp [encL]; rfl, rfl, by simp [b_ends_1, e3, e4, encE, m1, m2]; unfold lowL; rw [e1, e2]⟩
  have c2 := comp_map (p := .t [(.n 3), (.n 4), (.n 5)]) (ft := fYes) (fe := b_ends_2) (ρ := [some (.p (encC c)), some (.p (.list ((c.map lowL).map PyData.int))), none, none, none, none]) encL (fun l => .int (highL l)) c fun l hl => by
    have gl := g.gl l hl
    obtain ⟨p, q, _, _, e1, e2, e3, e4⟩ := ends_at gl
    obtain ⟨b1, b2, b3⟩ := ends_b gl
    have m1 : mulS (.int l.sign) (.int (l.size + p.1)) = some (.p (.int (l.sign * (l.size + p.1)))) := by rw [e1]; exact d_mulB b3 b1 (by decide)
    have m2 : mulS (.int l.sign) (.int (l.size + q.1)) = some (.p (.int (l.sign * (l.size + q.1)))) := by rw [e2]; exact d_mulB b3 b2 (by decide)
    exact ⟨_, by simp [encL]; rfl, rfl, by simp [b_ends_2, e3, e4, encE, m1, m2]; unfold highL; rw [e1, e2]⟩
  have q1 : c.map (fun l => PyData.int (lowL l)) = (c.map lowL).map PyData.int := by rw [List.map_map]; rfl
  have q2 : c.map (fun l => PyData.int (highL l)) = (c.map highL).map PyData.int := by rw [List.map_map]; rfl
  rw [q1] at c1
  rw [q2] at c2
  have ck := check_is g
  refine run_of rfl ?_
  unfold encC at c1 c2 ck
  simp [g_ends, enStart, encC, ck, c1, c2, endD, -List.map_map]
/-! ### the mean of errors -/
def sumP (e : Wt) : Int := (e.map fun p => p.1 * p.2).sum
def sumN (e : Wt) : Int := (e.map fun p => p.2).sum
theorem sumN_is (e : Wt) : (sumN e : Rat) = Ew e fun _ => 1 := by
  induction e with
  | nil => simp [sumN, Ew]
  | cons p e ih =>
    unfold sumN at ih ⊢
    rw [List.map_cons, List.sum_cons, Ew, ← ih]
    push_cast
    grind
theorem sumP_is (e : Wt) : (sumP e : Rat) = Ew e fun x => x := by
  induction e with
  | nil => simp [sumP, Ew]
  | cons p e ih =>
    unfold sumP at ih ⊢
    rw [List.map_cons, List.sum_cons, Ew, ← ih]
    push_cast
    grind
theorem divInt_rat {n d : Int} (h : d ≠ 0) : Rat.divInt n d = (n : Rat) / (d : Rat) := by
  have hd : (d : Rat) ≠ 0 := by exact_mod_cast h
  rw [div_is _ hd]
  show _ = Rat.divInt (n * ((1 : Nat) : Int)) (((1 : Nat) : Int) * d)
  simp
theorem sumN_b {e : Wt} (h : ∀ p ∈ e, 1 ≤ p.2 ∧ p.2 ≤ 4) : (e.length : Int) ≤ sumN e ∧ sumN e ≤ 4 * e.length := by
  induction e with
  | nil => simp [sumN]
  | cons p e ih =>
    have i := ih fun q hq => h q (List.mem_cons_of_mem _ hq)
    have hp := h p List.mem_cons_self
    unfold sumN at i ⊢
    rw [List.map_cons, List.sum_cons, List.length_cons]
    push_cast
    omega
theorem mul_b20 {a b : Int} (h1 : -5 ≤ a) (h2 : a ≤ 5) (h3 : 1 ≤ b) (h4 : b ≤ 4) : -20 ≤ a * b ∧ a * b ≤ 20 := by
  have : b = 1 ∨ b = 2 ∨ b = 3 ∨ b = 4 := by omega
  rcases this with h | h | h | h <;> subst h <;> omega
theorem sumP_b {e : Wt} (h : ∀ p ∈ e, -5 ≤ p.1 ∧ p.1 ≤ 5 ∧ 1 ≤ p.2 ∧ p.2 ≤ 4) : (sumP e).natAbs ≤ 20 * e.length := by
  induction e with
  | nil => simp [sumP]
  | cons p e ih =>
    have i := ih fun q hq => h q (List.mem_cons_of_mem _ hq)
    obtain ⟨a, b, c, d⟩ := h p List.mem_cons_self
    have := mul_b20 a b c d
    unfold sumP at i ⊢
    rw [List.map_cons, List.sum_cons, List.length_cons]
    omega
theorem me_is {l : Link} (g : Good l) : me l.errs = Rat.divInt (sumP l.errs) (sumN l.errs) ∧ 1 ≤ sumN l.errs ∧ sumN l.errs ≤ 12 ∧ QB 6 (me l.errs) := by
  obtain ⟨b1, b2⟩ := sumN_b fun p hp => (g.er p hp).2.2
  have b3 := sumP_b g.er
  have := g.n0
  have := g.n1
  have h : sumN l.errs ≠ 0 := by omega
  have e : me l.errs = Rat.divInt (sumP l.errs) (sumN l.errs) := by rw [divInt_rat h, sumP_is, sumN_is]; rfl
  exact ⟨e, by omega, by omega, by rw [e]; exact qb_divInt (by omega) (by omega) h⟩
theorem fraction_F : MakesQ F_fraction := fraction_is
theorem meanError_F {l : Link} (g : Good l) : F_mean_error [.list (l.errs.map encE)] = some (.p (encQ (me l.errs))) := by
  obtain ⟨e, n1, n2, _⟩ := me_is g
  have c1 := comp_map (p := .t [(.n 1), (.n 2)]) (ft := fYes) (fe := frz (f2 mulS (fV 1) (fV 2))) (ρ := [some (.p (.list (l.errs.map encE))), none, none, none]) encE (fun p => .int (p.1 * p.2)) l.errs fun p hp => by
    have er := g.er p hp
    have m : mulS (.int p.1) (.int p.2) = some (.p (.int (p.1 * p.2))) := d_mulB (a := 4) (b := 4) (by omega) (by omega) (by decide)
    exact ⟨_, by simp [encE]; rfl, rfl, by simp [m]⟩
  have c2 := comp_map (p := .t [(.n 3), (.n 2)]) (ft := fYes) (fe := fV 2) (ρ := [some (.p (.list (l.errs.map encE))), none, none, none]) encE (fun p => .int p.2) l.errs fun p hp => ⟨_, by simp [encE]; rfl, rfl, by simp⟩
  have q1 : l.errs.map (fun p => PyData.int (p.1 * p.2)) = (l.errs.map fun p => p.1 * p.2).map PyData.int := by rw [List.map_map]; rfl
  have q2 : l.errs.map (fun p => PyData.int p.2) = (l.errs.map fun p => p.2).map PyData.int := by rw [List.map_map]; rfl
  rw [q1] at c1
  rw [q2] at c2
  have hf := fraction_F (sumP l.errs) (sumN l.errs) (by omega) (Nat.lt_of_lt_of_le (show (sumN l.errs).natAbs < 2 ^ 4 by omega) (pow_le_8999 (by decide)))
  rw [← e] at hf
  unfold sumP sumN at hf
  refine run_of rfl ?_
  simp only [st_retF, g_mean_error, enStart]
  simp [c1, c2, hf, endD, -List.map_map]
end K54

set_option Elab.async false
set_option linter.all false
set_option maxRecDepth 100000
/-! k54: what the defs give, part 5: mean, spread, share. -/
namespace K54
open PySem DL
theorem plus_F {j k : Nat} {p q : Rat} (hp : QB j p) (hq : QB k q) (h : j + k ≤ 8999) : F_plus [encQ p, encQ q] = some (.p (encQ (p + q))) := plus_is fraction_F hp hq h
theorem minus_F {j k : Nat} {p q : Rat} (hp : QB j p) (hq : QB k q) (h : j + k ≤ 8999) : F_minus [encQ p, encQ q] = some (.p (encQ (p - q))) := minus_is fraction_F hp hq h
theorem times_F {j k : Nat} {p q : Rat} (hp : QB j p) (hq : QB k q) (h : j + k ≤ 8999) : F_times [encQ p, encQ q] = some (.p (encQ (p * q))) := times_is fraction_F hp hq h
theorem total_F {k : Nat} {qs : List Rat} (h : ∀ q ∈ qs, QB k q) (hk : (k + 1) * qs.length + k ≤ 8990) : F_total [.list (qs.map encQ)] = some (.p (encQ (sumQ qs))) := total_is fraction_F h hk
theorem encQ_i (i : Int) : PyData.tuple [.int i, .int 1] = encQ (i : Rat) := rfl
theorem mL_qb {l : Link} (g : Good l) : QB 13 (mL l) := by
  have z0 := g.z0
  have z1 := g.z1
  have h1 : QB 5 (l.size : Rat) := qb_int (by omega) (by decide)
  have h2 : QB 1 (l.sign : Rat) := qb_int (by rcases g.sg with h | h <;> rw [h] <;> decide) (by decide)
  exact h2.mul (h1.add (me_is g).2.2.2)
theorem mean_F {c : List Link} (g : GoodC c) : F_mean [encC c] = some (.p (encQ (Mc c))) := by
  have c1 := comp_map (p := .t [(.n 1), (.n 2), (.n 3)]) (ft := fYes) (fe := b_mean_1) (ρ := [some (.p (encC c)), none, none, none]) encL (fun l => encQ (mL l)) c fun l hl => by
    have gl := g.gl l hl
    have z0 := gl.z0
    have z1 := gl.z1
    have h1 : QB 5 (l.size : Rat) := qb_int (by omega) (by decide)
    have h2 : QB 1 (l.sign : Rat) := qb_int (by rcases gl.sg with h | h <;> rw [h] <;> decide) (by decide)
    have hm := meanError_F gl
    have hp := plus_F h1 (me_is gl).2.2.2 (by decide)
    have ht := times_F h2 (h1.add (me_is gl).2.2.2) (by decide)
    refine ⟨_, by simp [encL]; rfl, rfl, ?_⟩
    simp [b_mean_1, hm, encQ_i, hp, ht]
    rfl
  have q1 : c.map (fun l => encQ (mL l)) = (c.map mL).map encQ := by rw [List.map_map]; rfl
  rw [q1] at c1
  have n1 := g.n1
  have ht := total_F (k := 13) (qs := c.map mL) (fun q hq => by
    obtain ⟨l, hl, e⟩ := List.mem_map.mp hq
    rw [← e]; exact mL_qb (g.gl l hl)) (by rw [List.length_map]; omega)
  have ck := check_is g
  refine run_of rfl ?_
  unfold encC at c1 ck
  simp [g_mean, enStart, encC, ck, c1, ht, endD, -List.map_map]
  rfl
/-! ### spread -/
theorem Ew_sum (e : Wt) (t : Rat) (f : Int → Rat) : Ew e f / t = sumQ (e.map fun p => ((p.2 : Rat) / t) * f p.1) := by
  induction e with
  | nil => simp [Ew, sumQ]; rw [Rat.div_def]; grind
  | cons p e ih =>
    rw [List.map_cons, sumQ_cons, ← ih, Ew]
    simp only [Rat.div_def]
    grind
theorem va_qb {l : Link} (g : Good l) : QB 76 (va l.errs) ∧ ∀ p ∈ l.errs, QB 3 (p.1 : Rat) ∧ QB 4 ((p.2 : Rat) / tot l.errs) ∧ (p.2 : Rat) / tot l.errs = Rat.divInt p.2 (sumN l.errs) := by
  obtain ⟨e, n1, n2, hm⟩ := me_is g
  have key : ∀ p ∈ l.errs, QB 3 (p.1 : Rat) ∧ QB 4 ((p.2 : Rat) / tot l.errs) ∧ (p.2 : Rat) / tot l.errs = Rat.divInt p.2 (sumN l.errs) := fun p hp => by
    have er := g.er p hp
    have e2 : (p.2 : Rat) / tot l.errs = Rat.divInt p.2 (sumN l.errs) := by rw [divInt_rat (by omega), sumN_is]; rfl
    exact ⟨qb_int (by omega) (by decide), by rw [e2]; exact qb_divInt (by omega) (by omega) (by omega), e2⟩
  refine ⟨?_, key⟩
  unfold va
  rw [Ew_sum]
  refine (qb_sum (k := 24) fun q hq => ?_).mono ?_
  · obtain ⟨p, hp, e⟩ := List.mem_map.mp hq
    obtain ⟨k1, k2, _⟩ := key p hp
    rw [← e]
    have h1 := k1.sub hm
    exact k2.mul (h1.mul h1)
  · rw [List.length_map]
    have := g.n1
    omega
theorem spreadOf_F {l : Link} (g : Good l) : F_spread_of [.list (l.errs.map encE)] = some (.p (encQ (va l.errs))) := by
  obtain ⟨_, n1, n2, hm⟩ := me_is g
  obtain ⟨_, key⟩ := va_qb g
  have hme := meanError_F g
  have c2 := comp_map (p := .t [(.n 7), (.n 5)]) (ft := fYes) (fe := fV 5) (ρ := [some (.p (.list (l.errs.map encE))), some (.p (encQ (me l.errs))), none, none, none, none, none, none]) encE (fun p => .int p.2) l.errs fun p hp => ⟨_, by simp [encE]; rfl, rfl, by simp⟩
  have q2 : l.errs.map (fun p => PyData.int p.2) = (l.errs.map fun p => p.2).map PyData.int := by rw [List.map_map]; rfl
  rw [q2] at c2
  have el := loop_fn (fs := [4, 5, 6]) (p := .t [(.n 4), (.n 5)]) (gb := b_spread_of_1) encE (fun pre => [some (.p (.list (l.errs.map encE))), some (.p (encQ (me l.errs))), some (.p (.int (sumN l.errs))), some (.l ((pre.map fun p => ((p.2 : Rat) / tot l.errs) * (((p.1 : Rat) - me l.errs) * ((p.1 : Rat) - me l.errs))).map encQ)), none, none, none, none]) l.errs fun pre p post e => by
    obtain ⟨k1, k2, k3⟩ := key p (mem_mid e)
    have hf := fraction_F p.2 (sumN l.errs) (by omega) (Nat.lt_of_lt_of_le (show (sumN l.errs).natAbs < 2 ^ 4 by omega) (pow_le_8999 (by decide)))
    rw [← k3] at hf
    have h1 := minus_F k1 hm (by decide)
    have q1 := k1.sub hm
    have h2 := times_F q1 q1 (by decide)
    have h3 := times_F k2 (q1.mul q1) (by decide)
    have hl : pre.length < l.errs.length := pre_lt e
    have := g.n1
    have ap := fun d => d_app (ds := (pre.map fun p => ((p.2 : Rat) / tot l.errs) * (((p.1 : Rat) - me l.errs) * ((p.1 : Rat) - me l.errs))).map encQ) (d := d) (by rw [List.length_map, List.length_map]; omega)
    simp [turn, b_spread_of_1, encE, encQ_i, h1, hf, h2, h3, ownL, ap, -List.map_map]
  have ht := total_F (k := 24) (qs := l.errs.map fun p => ((p.2 : Rat) / tot l.errs) * (((p.1 : Rat) - me l.errs) * ((p.1 : Rat) - me l.errs))) (fun q hq => by
    obtain ⟨p, hp, e⟩ := List.mem_map.mp hq
    obtain ⟨k1, k2, _⟩ := key p hp
    rw [← e]
    have h1 := k1.sub hm
    exact k2.mul (h1.mul h1)) (by rw [List.length_map]; have := g.n1; omega)
  have ev : va l.errs = sumQ (l.errs.map fun p => ((p.2 : Rat) / tot l.errs) * (((p.1 : Rat) - me l.errs) * ((p.1 : Rat) - me l.errs))) := by
    unfold va
    rw [Ew_sum]
  rw [← ev] at ht
  refine run_of rfl ?_
  have esN : (l.errs.map fun p => p.2).sum = sumN l.errs := rfl
  simp [g_spread_of, enStart, hme, c2, esN, lstS, relE, -List.map_map]
  simp [-List.map_map] at el
  simp [el, relE, ht, endD, -List.map_map]
theorem spread_F {c : List Link} (g : GoodC c) : F_spread [encC c] = some (.p (encQ (Vc c))) ∧ QB 617 (Vc c) := by
  have c1 := comp_map (p := .t [(.n 1), (.n 1), (.n 2)]) (ft := fYes) (fe := frz (f1 F_spread_of (fCons (fV 2) fNil))) (ρ := [some (.p (encC c)), none, none]) encL (fun l => encQ (va l.errs)) c fun l hl => by
    have hs := spreadOf_F (g.gl l hl)
    exact ⟨_, by simp [encL]; rfl, rfl, by simp [hs]⟩
  have q1 : c.map (fun l => encQ (va l.errs)) = (c.map fun l => va l.errs).map encQ := by rw [List.map_map]; rfl
  rw [q1] at c1
  have n1 := g.n1
  have hq : ∀ q ∈ c.map (fun l => va l.errs), QB 76 q := fun q hq => by
    obtain ⟨l, hl, e⟩ := List.mem_map.mp hq
    rw [← e]; exact (va_qb (g.gl l hl)).1
  have ht := total_F (k := 76) (qs := c.map fun l => va l.errs) hq (by rw [List.length_map]; omega)
  have ck := check_is g
  refine ⟨run_of rfl ?_, (qb_sum hq).mono (by rw [List.length_map]; omega)⟩
  unfold encC at c1 ck
  simp [g_spread, enStart, encC, ck, c1, ht, endD, -List.map_map]
  rfl
/-! ### share -/
/-- between low and high -/
def inQ (lo hi : Int) : Int → Rat := fun w => if lo ≤ w ∧ w ≤ hi then 1 else 0
def cntIn (a : Wt) (lo hi : Int) : Int := ((a.filter fun p => decide (lo ≤ p.1 ∧ p.1 ≤ hi)).map fun p => p.2).sum
theorem cntIn_is (a : Wt) (lo hi : Int) : (cntIn a lo hi : Rat) = Ew a (inQ lo hi) := by
  induction a with
  | nil => simp [cntIn, Ew]
  | cons p a ih =>
    rw [Ew, ← ih]
    unfold cntIn inQ
    by_cases h : lo ≤ p.1 ∧ p.1 ≤ hi
    · rw [List.filter_cons_of_pos (by simpa using h), List.map_cons, List.sum_cons, if_pos h]
      push_cast
      grind
    · rw [List.filter_cons_of_neg (by simpa using h), if_neg h]
      grind
theorem sumVals_is (a : Wt) : sumValsD (.dict (encD a)) = some (.int (sumN a)) := by
  show (intsD ((encD a).map (·.2))).map _ = _
  have : (encD a).map (·.2) = (a.map fun p => p.2).map PyData.int := by unfold encD; rw [List.map_map, List.map_map]; rfl
  rw [this]
  have key : ∀ ns : List Int, intsD (ns.map PyData.int) = some ns := intsD_ints
  rw [key]; rfl
theorem sumN_pos {a : Wt} (hp : ∀ p ∈ a, 0 < p.2) (ne : a ≠ []) : 0 < sumN a := by
  have nn : ∀ a : Wt, (∀ p ∈ a, 0 < p.2) → 0 ≤ sumN a := by
    intro a
    induction a with
    | nil => intro _; decide
    | cons p a ih =>
      intro hp
      have := ih fun q hq => hp q (List.mem_cons_of_mem _ hq)
      have := hp p List.mem_cons_self
      unfold sumN at *
      rw [List.map_cons, List.sum_cons]
      omega
  cases a with
  | nil => exact absurd rfl ne
  | cons p a =>
    have := nn a fun q hq => hp q (List.mem_cons_of_mem _ hq)
    have := hp p List.mem_cons_self
    unfold sumN at *
    rw [List.map_cons, List.sum_cons]
    omega
theorem share_F {c : List Link} (g : GoodC c) {lo hi : Int} (h : lo ≤ hi) (hT : ∀ a, IsD a (ways c) → 0 < sumN a ∧ (sumN a).natAbs < 2 ^ 100) :
    F_share [encC c, .int lo, .int hi] = some (.p (encQ (Ew (ways c) (inQ lo hi) / Tc c))) := by
  obtain ⟨a, ha, e⟩ := waysOf_is g
  obtain ⟨t0, t1⟩ := hT a ha
  have ck := check_is g
  have c1 := comp_filter (p := .t [(.n 4), (.n 5)]) (ft := f1 bo (fChain leD leD (fV 1) (fV 4) (fV 2))) (fe := fV 5) (ρ := [some (.p (encC c)), some (.p (.int lo)), some (.p (.int hi)), some (.p (.dict (encD a))), none, none]) encE (fun p => decide (lo ≤ p.1 ∧ p.1 ≤ hi)) (fun p => .int p.2) a fun p hp => by
    refine ⟨_, by simp [encE]; rfl, ?_, fun _ => by simp⟩
    by_cases h1 : lo ≤ p.1
    · simp [h1]
    · simp [h1]
  have q1 : (a.filter fun p => decide (lo ≤ p.1 ∧ p.1 ≤ hi)).map (fun p => PyData.int p.2) = ((a.filter fun p => decide (lo ≤ p.1 ∧ p.1 ≤ hi)).map fun p => p.2).map PyData.int := by rw [List.map_map]; rfl
  rw [q1] at c1
  have hf := fraction_F (cntIn a lo hi) (sumN a) (by omega) (Nat.lt_of_lt_of_le t1 (pow_le_8999 (by decide)))
  have hv : Rat.divInt (cntIn a lo hi) (sumN a) = Ew (ways c) (inQ lo hi) / Tc c := by
    rw [divInt_rat (by omega), cntIn_is, sumN_is, ha.sim, ha.sim]; rfl
  rw [hv] at hf
  have hnot : ¬ hi < lo := by omega
  have hi2 := itemL_enc a
  have sv := sumVals_is a
  refine run_of rfl ?_
  simp [g_share, enStart, ck, hnot, e, hi2, c1, sv, endD, -List.map_map]
  unfold cntIn at hf
  simp only [Bool.decide_and] at hf
  rw [hf]; rfl
end K54

set_option Elab.async false
set_option linter.all false
set_option maxRecDepth 100000
/-! k54: what the law looks at. -/
namespace K54
open PySem DL
theorem minI_eq {ns : List Int} {m : Int} (h1 : m ∈ ns) (h2 : ∀ j ∈ ns, m ≤ j) : minI ns = some m := by
  cases ns with
  | nil => cases h1
  | cons n r =>
    obtain ⟨k1, k2⟩ := minI_is r n
    show some _ = _
    congr 1
    exact Int.le_antisymm (k2 _ h1) (h2 _ k1)
theorem maxI_eq {ns : List Int} {m : Int} (h1 : m ∈ ns) (h2 : ∀ j ∈ ns, j ≤ m) : maxI ns = some m := by
  cases ns with
  | nil => cases h1
  | cons n r =>
    obtain ⟨k1, k2⟩ := maxI_is r n
    show some _ = _
    congr 1
    exact Int.le_antisymm (h2 _ k1) (k2 _ h1)
theorem keysD (a : Wt) : (encD a).map (·.1) = (a.map (·.1)).map PyData.int := by unfold encD; rw [List.map_map, List.map_map]; rfl
theorem minK_is {a : Wt} {m : Int} (h1 : m ∈ a.map (·.1)) (h2 : ∀ j ∈ a.map (·.1), m ≤ j) : minKD (.dict (encD a)) = some (.int m) := by
  show (intsD ((encD a).map (·.1))).bind _ = _
  rw [keysD, intsD_ints]
  show (minI (a.map (·.1))).map _ = _
  rw [minI_eq h1 h2]; rfl
theorem maxK_is {a : Wt} {m : Int} (h1 : m ∈ a.map (·.1)) (h2 : ∀ j ∈ a.map (·.1), j ≤ m) : maxKD (.dict (encD a)) = some (.int m) := by
  show (intsD ((encD a).map (·.1))).bind _ = _
  rw [keysD, intsD_ints]
  show (maxI (a.map (·.1))).map _ = _
  rw [maxI_eq h1 h2]; rfl
def loC (c : List Link) : Int := (c.map lowL).sum
def hiC (c : List Link) : Int := (c.map highL).sum
theorem link_range {l : Link} (g : Good l) : (∀ e ∈ l.errs, lowL l ≤ l.sign * (l.size + e.1) ∧ l.sign * (l.size + e.1) ≤ highL l) ∧ (∃ e ∈ l.errs, l.sign * (l.size + e.1) = lowL l) ∧ (∃ e ∈ l.errs, l.sign * (l.size + e.1) = highL l) ∧ highL l ≤ lowL l + 10 ∧ -35 ≤ lowL l ∧ highL l ≤ 35 := by
  obtain ⟨p, q, hp, hq, e1, e2, _⟩ := ends_at g
  have h1 := g.er p hp
  have h2 := g.er q hq
  have z0 := g.z0
  have z1 := g.z1
  have hr : ∀ e ∈ l.errs, p.1 ≤ e.1 ∧ e.1 ≤ q.1 := fun e he => by
    have asc := List.pairwise_iff_getElem.mp g.asc
    obtain ⟨i, hi, ei⟩ := List.mem_iff_getElem.mp he
    have n0 := g.n0
    have ep : p.1 = (l.errs[0]).1 := by
      rw [e1]; unfold fstE
      have key : ∀ (es : Wt) (h : 0 < es.length), (es.headD (0, 0)).1 = (es[0]).1 := by
        intro es h
        cases es with
        | nil => simp at h
        | cons x r => simp
      exact key _ _
    have eq : q.1 = (l.errs[l.errs.length - 1]).1 := by
      rw [e2]; unfold lstE
      rw [List.getLastD_eq_getLast?, List.getLast?_eq_getElem?, List.getElem?_eq_getElem (by omega)]; rfl
    constructor
    · rw [ep, ← ei]
      rcases Nat.eq_zero_or_pos i with z | z
      · subst z; omega
      · have := asc 0 i (by omega) hi z; omega
    · rw [eq, ← ei]
      by_cases z : i = l.errs.length - 1
      · subst z; omega
      · have := asc i (l.errs.length - 1) hi (by omega) (by omega); omega
  have hpq := hr q hq
  unfold lowL highL
  rw [← e1, ← e2]
  rcases g.sg with s | s <;> rw [s]
  · refine ⟨fun e he => by have := hr e he; omega, ⟨p, hp, by omega⟩, ⟨q, hq, by omega⟩, by omega, by omega, by omega⟩
  · refine ⟨fun e he => by have := hr e he; omega, ⟨q, hq, by omega⟩, ⟨p, hp, by omega⟩, by omega, by omega, by omega⟩
theorem ways_range : ∀ c : List Link, (∀ l ∈ c, Good l) → (∀ p ∈ ways c, loC c ≤ p.1 ∧ p.1 ≤ hiC c) ∧ (∃ p ∈ ways c, p.1 = loC c) ∧ (∃ p ∈ ways c, p.1 = hiC c) ∧ hiC c ≤ loC c + 10 * c.length ∧ -35 * (c.length : Int) ≤ loC c ∧ hiC c ≤ 35 * c.length := by
  refine rev_ind (fun _ => by simp [ways, from_, loC, hiC]) fun c l ih h => ?_
  obtain ⟨h1, h2⟩ := good_app h
  obtain ⟨i1, ⟨p, hp, ep⟩, ⟨q, hq, eq⟩, i4, i5, i6⟩ := ih h1
  obtain ⟨j1, ⟨e, he, ee⟩, ⟨f, hf, ef⟩, j4, j5, j6⟩ := link_range h2
  have el : loC (c ++ [l]) = loC c + lowL l := by unfold loC; simp
  have eh : hiC (c ++ [l]) = hiC c + highL l := by unfold hiC; simp
  rw [ways_app, el, eh, List.length_append, List.length_singleton]
  have mem : ∀ p ∈ ways c, ∀ e ∈ l.errs, (p.1 + l.sign * (l.size + e.1), p.2 * e.2) ∈ step (ways c) l := fun p hp e he => List.mem_flatMap.mpr ⟨p, hp, List.mem_map.mpr ⟨e, he, rfl⟩⟩
  refine ⟨fun r hr => ?_, ⟨_, mem p hp e he, by show p.1 + _ = _; omega⟩, ⟨_, mem q hq f hf, by show q.1 + _ = _; omega⟩, by push_cast; omega, by push_cast; omega, by push_cast; omega⟩
  obtain ⟨p, hp, hr⟩ := List.mem_flatMap.mp hr
  obtain ⟨e, he, hr⟩ := List.mem_map.mp hr
  subst hr
  have := i1 p hp
  have := j1 e he
  constructor <;> show _ ≤ _ <;> simp only [] <;> omega
/-- what stands of the dict of a chain -/
structure Due (c : List Link) (a : Wt) : Prop where
  d : IsD a (ways c)
  g : GoodC c
  n5 : c.length ≤ 5
theorem Due.wpos {c : List Link} {a : Wt} (h : Due c a) : ∀ p ∈ ways c, 0 < p.2 := fun p hp => by have := ((ways_bd c h.g.gl).1 p hp).1; omega
theorem Due.keys {c : List Link} {a : Wt} (h : Due c a) (x : Int) : x ∈ a.map (·.1) ↔ x ∈ (ways c).map (·.1) := h.d.sim.keys h.d.pos h.wpos x
theorem Due.range {c : List Link} {a : Wt} (h : Due c a) : loC c ∈ a.map (·.1) ∧ hiC c ∈ a.map (·.1) ∧ (∀ x ∈ a.map (·.1), loC c ≤ x ∧ x ≤ hiC c) ∧ hiC c ≤ loC c + 50 ∧ -175 ≤ loC c ∧ hiC c ≤ 175 := by
  obtain ⟨r1, ⟨p, hp, ep⟩, ⟨q, hq, eq⟩, r4, r5, r6⟩ := ways_range c h.g.gl
  have := h.n5
  refine ⟨(h.keys _).mpr (List.mem_map.mpr ⟨p, hp, ep⟩), (h.keys _).mpr (List.mem_map.mpr ⟨q, hq, eq⟩), fun x hx => ?_, by omega, by omega, by omega⟩
  obtain ⟨p, hp, ep⟩ := List.mem_map.mp ((h.keys x).mp hx)
  rw [← ep]; exact r1 p hp
theorem Due.min {c : List Link} {a : Wt} (h : Due c a) : minKD (.dict (encD a)) = some (.int (loC c)) := minK_is h.range.1 fun j hj => (h.range.2.2.1 j hj).1
theorem Due.max {c : List Link} {a : Wt} (h : Due c a) : maxKD (.dict (encD a)) = some (.int (hiC c)) := maxK_is h.range.2.1 fun j hj => (h.range.2.2.1 j hj).2
theorem Due.few {c : List Link} {a : Wt} (h : Due c a) : a.length ≤ 51 := by
  obtain ⟨_, _, r3, r4, _, _⟩ := h.range
  have := sub_len (l := a.map (·.1)) (l' := (List.range 51).map fun i => loC c + (i : Nat)) h.d.nd fun x hx => by
    have := r3 x hx
    exact List.mem_map.mpr ⟨(x - loC c).toNat, by simp; omega, by omega⟩
  simpa using this
theorem Due.tot {c : List Link} {a : Wt} (h : Due c a) : (sumN a : Rat) = Tc c := by rw [sumN_is, h.d.sim]; rfl
theorem Due.ne {c : List Link} {a : Wt} (h : Due c a) : a ≠ [] := fun e => by have := h.range.1; rw [e] at this; cases this
theorem Due.tot_b {c : List Link} {a : Wt} (h : Due c a) : 0 < sumN a ∧ sumN a ≤ 248832 := by
  refine ⟨sumN_pos h.d.pos h.ne, ?_⟩
  have h1 := Tc_le c h.g.gl
  rw [← h.tot] at h1
  have h2 : sumN a ≤ ((12 ^ c.length : Nat) : Int) := by exact_mod_cast h1
  have h3 : (12 : Nat) ^ c.length ≤ 12 ^ 5 := Nat.pow_le_pow_right (by decide) h.n5
  have e : (12 : Nat) ^ 5 = 248832 := by decide
  omega
theorem val_sum {a : Wt} (hp : ∀ p ∈ a, 0 < p.2) {p : Int × Int} (h : p ∈ a) : p.2 ≤ sumN a := by
  have h1 := Ew1_ge hp h
  rw [← sumN_is] at h1
  exact_mod_cast h1
theorem getI_is {a : Wt} (nd : (a.map (·.1)).Nodup) {p : Int × Int} (h : p ∈ a) : getI (.dict (encD a)) (.int p.1) = some (.int p.2) := by
  show lookK (encD a) (.inl p.1) = _
  rw [look_enc, lookA_mem nd h]; rfl
/-- the value at a key -/
def val (a : Wt) (x : Int) : Int := (lookA a x).getD 0
theorem getI_val {a : Wt} (nd : (a.map (·.1)).Nodup) {x : Int} (h : x ∈ a.map (·.1)) : getI (.dict (encD a)) (.int x) = some (.int (val a x)) := by
  obtain ⟨p, hp, e⟩ := List.mem_map.mp h
  subst e
  rw [getI_is nd hp]
  unfold val
  rw [lookA_mem nd hp]; rfl
theorem val_mem {a : Wt} (nd : (a.map (·.1)).Nodup) {p : Int × Int} (h : p ∈ a) : val a p.1 = p.2 := by unfold val; rw [lookA_mem nd h]; rfl
theorem val_b {c : List Link} {a : Wt} (h : Due c a) {x : Int} (hx : x ∈ a.map (·.1)) : 0 < val a x ∧ val a x ≤ 248832 := by
  obtain ⟨p, hp, e⟩ := List.mem_map.mp hx
  subst e
  rw [val_mem h.d.nd hp]
  have := val_sum h.d.pos hp
  have := h.tot_b
  exact ⟨h.d.pos p hp, by omega⟩
/-! ### sums over the keys, in whatever order -/
theorem sumQ_perm {l l' : List Rat} (h : l.Perm l') : sumQ l = sumQ l' := by
  induction h with
  | nil => rfl
  | cons x _ ih => rw [sumQ_cons, sumQ_cons, ih]
  | swap x y l => rw [sumQ_cons, sumQ_cons, sumQ_cons, sumQ_cons]; grind
  | trans _ _ h1 h2 => rw [h1, h2]
theorem sum_keys {c : List Link} {a : Wt} (h : Due c a) (f : Int → Rat) {ks : List Int} (hk : ks.Perm (a.map (·.1))) : sumQ (ks.map fun x => ((val a x : Rat) / Tc c) * f x) = Ew (ways c) f / Tc c := by
  rw [sumQ_perm (hk.map _), List.map_map, ← h.d.sim, Ew_sum]
  congr 1
  refine List.map_congr_left fun p hp => ?_
  show ((val a p.1 : Rat) / Tc c) * f p.1 = _
  rw [val_mem h.d.nd hp]
theorem sortL_perm (ns : List Int) : ∃ ks : List Int, ks.Perm ns ∧ sortL (ns.map PyData.int) = ks.map PyData.int := by
  refine ⟨ns.mergeSort fun i j => PySem.W.dataLe false id (.int i) (.int j), List.mergeSort_perm _ _, ?_⟩
  unfold sortL
  rw [List.map_mergeSort]
  intro _ _ _ _
  rfl
theorem alikesB_ints (ns : List Int) : alikesB (ns.map PyData.int) = true := by
  unfold alikesB
  rw [List.all_eq_true]
  intro d hd
  rw [List.all_eq_true]
  intro e he
  obtain ⟨i, _, rfl⟩ := List.mem_map.mp hd
  obtain ⟨j, _, rfl⟩ := List.mem_map.mp he
  rfl
theorem sortB_ints (ns : List Int) : sortB (ns.map PyData.int) = true := by
  unfold sortB
  rw [Bool.or_eq_true]
  refine .inr ?_
  rw [List.all_eq_true]
  intro d hd
  obtain ⟨i, _, rfl⟩ := List.mem_map.mp hd
  rfl
theorem sortK_is (a : Wt) : ∃ ks : List Int, ks.Perm (a.map (·.1)) ∧ sortedKS (.dict (encD a)) = some (.l (ks.map PyData.int)) := by
  obtain ⟨ks, hk, e⟩ := sortL_perm (a.map (·.1))
  refine ⟨ks, hk, ?_⟩
  show (if alikesB ((encD a).map (·.1)) && sortB ((encD a).map (·.1)) then some (Sl.l (sortL ((encD a).map (·.1)))) else none) = _
  rw [keysD, alikesB_ints, sortB_ints, e]; rfl
end K54

set_option Elab.async false
set_option linter.all false
set_option maxRecDepth 100000
/-! k54: the law's own reckonings. -/
namespace K54
open PySem DL
theorem lawFraction_F : MakesQ F__law_fraction := lawFraction_is
theorem lawPlus_F {j k : Nat} {p q : Rat} (hp : QB j p) (hq : QB k q) (h : j + k ≤ 8999) : F__law_plus [encQ p, encQ q] = some (.p (encQ (p + q))) := plus_is lawFraction_F hp hq h
theorem lawTimes_F {j k : Nat} {p q : Rat} (hp : QB j p) (hq : QB k q) (h : j + k ≤ 8999) : F__law_times [encQ p, encQ q] = some (.p (encQ (p * q))) := times_is lawFraction_F hp hq h
theorem lawLess_F {j k : Nat} {p q : Rat} (hp : QB j p) (hq : QB k q) (h : j + k ≤ 8999) : F__law_less [encQ p, encQ q] = some (.p (.bool (decide (p < q)))) := less_is hp hq h
theorem lawAdded_F {k : Nat} {qs : List Rat} (h : ∀ q ∈ qs, QB k q) (hk : (k + 1) * qs.length + k ≤ 8990) : F__law_added [.list (qs.map encQ)] = some (.p (encQ (sumQ qs))) := total_is lawFraction_F h hk
theorem lawFrac {n d : Int} (h : d ≠ 0) (hs : d.natAbs < 2 ^ 100) : F__law_fraction [.int n, .int d] = some (.p (encQ ((n : Rat) / (d : Rat)))) := by
  rw [← divInt_rat h]
  exact lawFraction_F n d h (Nat.lt_of_lt_of_le hs (pow_le_8999 (by decide)))
theorem num_neg' {q : Rat} : q.num < 0 ↔ q < 0 := by
  have h : 0 ≤ q.num ↔ 0 ≤ q := Rat.num_nonneg
  constructor
  · intro z
    exact Rat.not_le.mp fun y => by have := h.mpr y; omega
  · intro z
    have : ¬ 0 ≤ q.num := fun y => Rat.not_le.mpr z (h.mp y)
    omega
/-- what a fraction is apart from 0 -/
def absQ (q : Rat) : Rat := if q < 0 then -q else q
theorem encQ_abs (q : Rat) : PyData.tuple [.int (q.num.natAbs : Int), .int q.den] = encQ (absQ q) := by
  unfold absQ encQ
  by_cases h : q < 0
  · have hn : q.num < 0 := num_neg'.mpr h
    rw [if_pos h, Rat.neg_num, Rat.neg_den]
    congr 3
    omega
  · have hn : ¬ q.num < 0 := fun z => h (num_neg'.mp z)
    rw [if_neg h]
    congr 3
    omega
theorem absQ_qb {q : Rat} {k : Nat} (h : QB k q) : QB k (absQ q) := by
  unfold absQ
  split
  · exact h.neg
  · exact h
theorem sumP_abs {a : Wt} (h : ∀ p ∈ a, p.1.natAbs ≤ 175 ∧ 0 < p.2) : (sumP a).natAbs ≤ 175 * (sumN a).natAbs ∧ 0 ≤ sumN a := by
  induction a with
  | nil => simp [sumP, sumN]
  | cons p a ih =>
    obtain ⟨i1, i2⟩ := ih fun q hq => h q (List.mem_cons_of_mem _ hq)
    obtain ⟨h1, h2⟩ := h p List.mem_cons_self
    have e1 : sumP (p :: a) = p.1 * p.2 + sumP a := by unfold sumP; rw [List.map_cons, List.sum_cons]
    have e2 : sumN (p :: a) = p.2 + sumN a := by unfold sumN; rw [List.map_cons, List.sum_cons]
    rw [e1, e2]
    have h3 : (p.1 * p.2).natAbs ≤ 175 * p.2.natAbs := by rw [Int.natAbs_mul]; exact Nat.mul_le_mul_right _ h1
    have h4 := Int.natAbs_add_le (p.1 * p.2) (sumP a)
    exact ⟨by omega, by omega⟩
theorem Due.abs {c : List Link} {a : Wt} (h : Due c a) {x : Int} (hx : x ∈ a.map (·.1)) : x.natAbs ≤ 175 := by
  obtain ⟨_, _, r3, r4, r5, r6⟩ := h.range
  have := r3 x hx
  omega
theorem Due.mid {c : List Link} {a : Wt} (h : Due c a) : ((sumP a : Int) : Rat) / ((sumN a : Int) : Rat) = Mc c ∧ QB 26 (Mc c) := by
  have t0 := h.tot_b
  have e : ((sumP a : Int) : Rat) / ((sumN a : Int) : Rat) = Mc c := by
    rw [sumP_is, h.d.sim, mean_is c h.g.gl, h.tot]
    have := Tc_pos c h.g.gl
    have hne : Tc c ≠ 0 := by grind
    rw [Rat.mul_comm, Rat.mul_div_cancel hne]
  refine ⟨e, ?_⟩
  have hb := sumP_abs (a := a) fun p hp => ⟨h.abs (List.mem_map.mpr ⟨p, hp, rfl⟩), h.d.pos p hp⟩
  rw [← e, ← divInt_rat (by omega)]
  exact qb_divInt (by omega) (by omega) (by omega)
/-- one part of the spread -/
theorem part_qb {c : List Link} {a : Wt} (h : Due c a) {x : Int} (hx : x ∈ a.map (·.1)) : QB 8 (x : Rat) ∧ QB 35 ((x : Rat) - Mc c) ∧ QB 18 ((val a x : Rat) / Tc c) ∧ QB 88 (((val a x : Rat) / Tc c) * (((x : Rat) - Mc c) * ((x : Rat) - Mc c))) := by
  have ha := h.abs hx
  have hv := val_b h hx
  have t0 := h.tot_b
  have q1 : QB 8 (x : Rat) := qb_int (by omega) (by decide)
  have q2 := q1.sub h.mid.2
  have q3 : QB 18 ((val a x : Rat) / Tc c) := by
    rw [← h.tot, ← divInt_rat (by omega)]
    exact qb_divInt (by omega) (by omega) (by omega)
  exact ⟨q1, q2, q3, q3.mul (q2.mul q2)⟩
theorem neg_mid (q : Rat) : PyData.tuple [.int (-q.num), .int q.den] = encQ (-q) := by
  unfold encQ
  rw [Rat.neg_num, Rat.neg_den]
theorem apart_F {c : List Link} {a : Wt} (h : Due c a) {x : Int} (hx : x ∈ a.map (·.1)) : F__law_plus [.tuple [.int x, .int 1], .tuple [.int (-(Mc c).num), .int (Mc c).den]] = some (.p (encQ ((x : Rat) - Mc c))) := by
  rw [neg_mid, encQ_i, lawPlus_F (part_qb h hx).1 h.mid.2.neg (by decide)]
  have : (x : Rat) + -Mc c = (x : Rat) - Mc c := by grind
  rw [this]
/-- the part at a whole -/
def partQ (c : List Link) (a : Wt) (x : Int) : Rat := ((val a x : Rat) / Tc c) * (((x : Rat) - Mc c) * ((x : Rat) - Mc c))
theorem go {g1 g2 : En → Option Out} {ρ ρ' : En} {s : Sl} (h : g1 ρ = some (.nx ρ')) (k : (g2 ρ').bind endD = some s) : (gSeq g1 g2 ρ).bind endD = some s := by
  rw [st_seq, h]
  exact k
theorem sumN_at {c : List Link} {a : Wt} (h : Due c a) : ((sumN a : Int) : Rat) = Tc c := h.tot
/-! ### texts -/
theorem small_int {i : Int} (h : i.natAbs < 2 ^ 60) : sz (.int i) ≤ 61 := sz_int (by decide) (log2_lt h (by decide))
theorem small_show {i : Int} (h : i.natAbs < 2 ^ 60) : PyData.showable (.int i) = true := by
  show decide (i.natAbs.log2 < 1920) = true
  have := log2_lt h (by decide)
  rw [decide_eq_true_eq]; omega
theorem repr_pair {i j : Int} (hi : i.natAbs < 2 ^ 60) (hj : j.natAbs < 2 ^ 60) : reprD (.tuple [.int i, .int j]) = some (.str (PyData.tuple [.int i, .int j]).shown) ∧ PyData.strOk (PyData.tuple [.int i, .int j]).shown = true := by
  have h1 := small_int hi
  have h2 := small_int hj
  refine ⟨repr_tup (reprB_of (by simp [okD, okAll]) ?_ ?_), ok_shown _ (by simp [plainD, plainAll])⟩
  · simp only [PyData.showable, PyData.showableAll, small_show hi, small_show hj, Bool.and_true]
    have a1 := small_show hi
    have a2 := small_show hj
    simp only [PyData.showable] at a1 a2
    rw [a1, a2]; rfl
  · simp only [sz, szs] at h1 h2 ⊢
    omega
theorem okAll_map {α : Type} (enc : α → PyData) (n : Nat) : ∀ l : List α, (∀ x ∈ l, okD n (enc x) = true) → okAll n (l.map enc) = true
  | [], _ => rfl
  | x :: l, h => by
    rw [List.map_cons, okAll, h x List.mem_cons_self, okAll_map enc n l fun y hy => h y (List.mem_cons_of_mem _ hy)]; rfl
theorem showAll_map {α : Type} (enc : α → PyData) : ∀ l : List α, (∀ x ∈ l, (enc x).showable = true) → PyData.showableAll (l.map enc) = true
  | [], _ => rfl
  | x :: l, h => by
    rw [List.map_cons, PyData.showableAll, h x List.mem_cons_self, showAll_map enc l fun y hy => h y (List.mem_cons_of_mem _ hy)]; rfl
theorem plainAll_map {α : Type} (enc : α → PyData) : ∀ l : List α, (∀ x ∈ l, plainD (enc x) = true) → plainAll (l.map enc) = true
  | [], _ => rfl
  | x :: l, h => by
    rw [List.map_cons, plainAll, h x List.mem_cons_self, plainAll_map enc l fun y hy => h y (List.mem_cons_of_mem _ hy)]; rfl
theorem encE_ok {p : Int × Int} (h1 : p.1.natAbs < 2 ^ 60) (h2 : p.2.natAbs < 2 ^ 60) (n : Nat) : okD (n + 1) (encE p) = true ∧ (encE p).showable = true ∧ plainD (encE p) = true ∧ sz (encE p) ≤ 129 := by
  have a1 := small_show h1
  have a2 := small_show h2
  have s1 := small_int h1
  have s2 := small_int h2
  refine ⟨by simp [encE, okD, okAll], ?_, by simp [encE, plainD, plainAll], ?_⟩
  · simp only [encE, PyData.showable, PyData.showableAll] at a1 a2 ⊢
    rw [a1, a2]; rfl
  · simp only [encE, sz, szs] at s1 s2 ⊢
    omega
theorem encL_ok {l : Link} (g : Good l) (n : Nat) : okD (n + 3) (encL l) = true ∧ (encL l).showable = true ∧ plainD (encL l) = true ∧ sz (encL l) ≤ 600 := by
  have z0 := g.z0
  have z1 := g.z1
  have n1 := g.n1
  have hs : l.sign.natAbs < 2 ^ 60 := by rcases g.sg with h | h <;> rw [h] <;> decide
  have hz : l.size.natAbs < 2 ^ 60 := by omega
  have he : ∀ m, ∀ p ∈ l.errs, okD (m + 1) (encE p) = true ∧ (encE p).showable = true ∧ plainD (encE p) = true ∧ sz (encE p) ≤ 129 := fun m p hp => by
    have := g.er p hp
    exact encE_ok (by omega) (by omega) m
  have k1 := okAll_map encE (n + 1) l.errs fun p hp => (he n p hp).1
  have k2 := showAll_map encE l.errs fun p hp => (he 0 p hp).2.1
  have k3 := plainAll_map encE l.errs fun p hp => (he 0 p hp).2.2.1
  have k4 := szs_le encE 129 l.errs fun p hp => (he 0 p hp).2.2.2
  have a1 := small_show hs
  have a2 := small_show hz
  have s1 := small_int hs
  have s2 := small_int hz
  refine ⟨by simp [encL, okD, okAll, k1], ?_, by simp [encL, plainD, plainAll, k3], ?_⟩
  · simp only [encL, PyData.showable, PyData.showableAll, k2] at a1 a2 ⊢
    rw [a1, a2]; rfl
  · simp only [encL, sz, szs] at s1 s2 k4 ⊢
    omega
theorem repr_two {c o : List Link} (gc : ∀ l ∈ c, Good l) (go : ∀ l ∈ o, Good l) (hc : c.length ≤ 8) (ho : o.length ≤ 8) :
    reprD (.tuple [encC c, encC o]) = some (.str (PyData.tuple [encC c, encC o]).shown) ∧ PyData.strOk (PyData.tuple [encC c, encC o]).shown = true := by
  have one : ∀ c : List Link, (∀ l ∈ c, Good l) → c.length ≤ 8 → ∀ n, okD (n + 4) (encC c) = true ∧ (encC c).showable = true ∧ plainD (encC c) = true ∧ sz (encC c) ≤ 5000 := fun c gc hc n => by
    have k1 := okAll_map encL (n + 3) c fun p hp => (encL_ok (gc p hp) n).1
    have k2 := showAll_map encL c fun p hp => (encL_ok (gc p hp) 0).2.1
    have k3 := plainAll_map encL c fun p hp => (encL_ok (gc p hp) 0).2.2.1
    have k4 := szs_le encL 600 c fun p hp => (encL_ok (gc p hp) 0).2.2.2
    refine ⟨by simp [encC, okD, k1], by simp [encC, PyData.showable, k2], by simp [encC, plainD, k3], ?_⟩
    simp only [encC, sz] at k4 ⊢
    omega
  obtain ⟨a1, a2, a3, a4⟩ := one c gc hc 55
  obtain ⟨b1, b2, b3, b4⟩ := one o go ho 55
  refine ⟨repr_tup (reprB_of (by simp [okD, okAll, a1, b1]) (by simp [PyData.showable, PyData.showableAll, a2, b2]) ?_), ok_shown _ (by simp [plainD, plainAll, a3, b3])⟩
  simp only [sz, szs]
  omega
end K54

set_option Elab.async false
set_option linter.all false
set_option maxRecDepth 100000
/-! k54: the law, line by line. -/
namespace K54
open PySem DL
@[simp] theorem d_ixQ0 (q : Rat) : ixD (encQ q) (.int 0) = some (.int q.num) := by unfold encQ; simp
@[simp] theorem d_ixQ1 (q : Rat) : ixD (encQ q) (.int 1) = some (.int q.den) := by unfold encQ; simp
theorem comp_due {a : Wt} {ft : En → Option Bool} {fe : En → Option PyData} {ρ : En} (g : Int × Int → PyData) (h : ∀ p ∈ a, ft (ρ.set 10 (some (.p (.int p.1)))) = some true ∧ fe (ρ.set 10 (some (.p (.int p.1)))) = some (g p)) :
    compD (.n 10) ft fe ρ ((encD a).map (·.1)) = some (a.map g) := by
  rw [keysD, List.map_map]
  exact comp_map (fun p : Int × Int => PyData.int p.1) g a fun p hp => ⟨_, pm_n _ _ _, h p hp⟩
theorem comp_dueF {a : Wt} {ft : En → Option Bool} {fe : En → Option PyData} {ρ : En} (q : Int × Int → Bool) (g : Int × Int → PyData) (h : ∀ p ∈ a, ft (ρ.set 10 (some (.p (.int p.1)))) = some (q p) ∧ (q p = true → fe (ρ.set 10 (some (.p (.int p.1)))) = some (g p))) :
    compD (.n 10) ft fe ρ ((encD a).map (·.1)) = some ((a.filter q).map g) := by
  rw [keysD, List.map_map]
  exact comp_filter (fun p : Int × Int => PyData.int p.1) q g a fun p hp => ⟨_, pm_n _ _ _, h p hp⟩
/-- the parts of the spread, in the order of the wholes -/
theorem parts_loop {c : List Link} {a b : Wt} (h : Due c a) (S D C O K : Sl) {ks : List Int} (hk : ks.Perm (a.map (·.1))) :
    ∃ s11 : Option Sl, loopD [10] (.n 10) b_law_1 (ks.map PyData.int) [some S, some D, some C, some O, some K, some (.p (.dict (encD a))), some (.k (encD b)), some (.p (.int (sumN a))), some (.p (encQ (Mc c))), some (.l []), none, none, none, none, none, none, none, none, none, none] =
      some (.nx [some S, some D, some C, some O, some K, some (.p (.dict (encD a))), some (.k (encD b)), some (.p (.int (sumN a))), some (.p (encQ (Mc c))), some (.l ((ks.map (partQ c a)).map encQ)), none, s11, none, none, none, none, none, none, none, none]) := by
  have t0 := h.tot_b
  have few := h.few
  have kl : ks.length = a.length := by have := hk.length_eq; rwa [List.length_map] at this
  obtain ⟨t, e, ht⟩ := loop_st (fs := [10]) (p := .n 10) (gb := b_law_1) PyData.int (fun t : Option Sl × List Rat => [some S, some D, some C, some O, some K, some (.p (.dict (encD a))), some (.k (encD b)), some (.p (.int (sumN a))), some (.p (encQ (Mc c))), some (.l (t.2.map encQ)), none, t.1, none, none, none, none, none, none, none, none])
    (fun pre t => t.2 = pre.map (partQ c a)) ks (none, []) rfl fun pre x post t e ht => by
      have hx : x ∈ a.map (·.1) := hk.mem_iff.mp (mem_mid e)
      obtain ⟨q1, q2, q3, q4⟩ := part_qb h hx
      have ap := apart_F h hx
      have gi := getI_val h.d.nd hx
      have hv := val_b h hx
      have lf := lawFrac (n := val a x) (d := sumN a) (by omega) (by omega)
      rw [h.tot] at lf
      have l1 := lawTimes_F q2 q2 (by decide)
      have l2 := lawTimes_F q3 (q2.mul q2) (by decide)
      have pl : pre.length < ks.length := pre_lt e
      have apu := fun d => d_app (ds := t.2.map encQ) (d := d) (by rw [List.length_map, ht, List.length_map]; omega)
      refine ⟨(some (.p (encQ ((x : Rat) - Mc c))), t.2 ++ [partQ c a x]), ?_, by rw [ht]; simp⟩
      simp [turn, b_law_1, ap, gi, lf, l1, l2, ownL, apu, partQ]
  refine ⟨t.1, ?_⟩
  rw [ht] at e
  exact e
/-- what lies apart from the mean by far or more -/
def outT (c : List Link) (a : Wt) (far : Rat) (x : Int) : Int := if absQ ((x : Rat) - Mc c) < far then 0 else val a x
theorem out_loop {c : List Link} {a b : Wt} (h : Due c a) {far : Rat} (hf : QB 10 far) (S D C O K P : Sl) (s11 : Option Sl) :
    ∃ s11' : Option Sl, loopD [10] (.n 10) b_law_5 ((encD a).map (·.1)) [some S, some D, some C, some O, some K, some (.p (.dict (encD a))), some (.k (encD b)), some (.p (.int (sumN a))), some (.p (encQ (Mc c))), some P, none, s11, none, none, none, none, none, some (.p (encQ far)), some (.p (.int 0)), none] =
      some (.nx [some S, some D, some C, some O, some K, some (.p (.dict (encD a))), some (.k (encD b)), some (.p (.int (sumN a))), some (.p (encQ (Mc c))), some P, none, s11', none, none, none, none, none, some (.p (encQ far)), some (.p (.int (((a.map (·.1)).map (outT c a far)).sum))), none]) := by
  have t0 := h.tot_b
  obtain ⟨t, e, ht⟩ := loop_st (fs := [10]) (p := .n 10) (gb := b_law_5) PyData.int (fun t : Option Sl × Int => [some S, some D, some C, some O, some K, some (.p (.dict (encD a))), some (.k (encD b)), some (.p (.int (sumN a))), some (.p (encQ (Mc c))), some P, none, t.1, none, none, none, none, none, some (.p (encQ far)), some (.p (.int t.2)), none])
    (fun pre t => t.2 = (pre.map (outT c a far)).sum) (a.map (·.1)) (s11, 0) rfl fun pre x post t e ht => by
      have hx : x ∈ a.map (·.1) := mem_mid e
      obtain ⟨q1, q2, q3, q4⟩ := part_qb h hx
      have ap := apart_F h hx
      have gi := getI_val h.d.nd hx
      have ll := lawLess_F (absQ_qb q2) hf (by decide)
      have ea := encQ_abs ((x : Rat) - Mc c)
      refine ⟨(some (.p (encQ ((x : Rat) - Mc c))), t.2 + outT c a far x), ?_, by rw [List.map_append, List.sum_append, ← ht]; simp⟩
      by_cases hc : absQ ((x : Rat) - Mc c) < far
      · simp [turn, b_law_5, ap, ea, ll, hc, outT]
      · simp [turn, b_law_5, ap, ea, ll, hc, gi, outT]
  refine ⟨t.1, ?_⟩
  rw [ht] at e
  rw [keysD]
  exact e
end K54

set_option Elab.async false
set_option linter.all false
set_option maxRecDepth 100000
/-! k54: the turns with limits, the bound. -/
namespace K54
open PySem DL
@[simp] theorem d_neB (x y : Bool) : neD (.bool x) (.bool y) = some (.bool (x != y)) := by
  show (if okD 60 (.bool x) && okD 60 (.bool y) then _ else _) = _
  rw [if_pos (by simp [okD])]
  cases x <;> cases y <;> simp [PyData.eqv]
theorem one_Q : PyData.tuple [.int 1, .int 1] = encQ 1 := rfl
theorem cnt_split (a : Wt) (q : Int × Int → Bool) (hp : ∀ p ∈ a, 0 < p.2) : 0 ≤ ((a.filter q).map fun p => p.2).sum ∧ ((a.filter q).map fun p => p.2).sum ≤ sumN a ∧ (((a.filter q).map fun p => p.2).sum = sumN a → ∀ p ∈ a, q p = true) := by
  induction a with
  | nil => simp [sumN]
  | cons p a ih =>
    obtain ⟨i0, i1, i2⟩ := ih fun r hr => hp r (List.mem_cons_of_mem _ hr)
    have h := hp p List.mem_cons_self
    have e2 : sumN (p :: a) = p.2 + sumN a := by unfold sumN; rw [List.map_cons, List.sum_cons]
    rw [e2]
    cases hq : q p with
    | true =>
      rw [List.filter_cons_of_pos hq, List.map_cons, List.sum_cons]
      refine ⟨by omega, by omega, fun e r hr => ?_⟩
      rcases List.mem_cons.mp hr with e3 | hr
      · rw [e3]; exact hq
      · exact i2 (by omega) r hr
    | false =>
      rw [List.filter_cons_of_neg (by rw [hq]; decide)]
      exact ⟨by omega, by omega, fun e => by omega⟩
theorem share_one {c : List Link} {a : Wt} (h : Due c a) (lo hi : Int) : decide (Ew (ways c) (inQ lo hi) / Tc c = 1) = (decide (lo ≤ loC c) && decide (hiC c ≤ hi)) ∧ QB 18 (Ew (ways c) (inQ lo hi) / Tc c) ∧ (((cntIn a lo hi : Int) : Rat) / ((sumN a : Int) : Rat)) = Ew (ways c) (inQ lo hi) / Tc c := by
  have t0 := h.tot_b
  obtain ⟨c0, c1, c2⟩ := cnt_split a (fun p => decide (lo ≤ p.1 ∧ p.1 ≤ hi)) h.d.pos
  have e : (((cntIn a lo hi : Int) : Rat) / ((sumN a : Int) : Rat)) = Ew (ways c) (inQ lo hi) / Tc c := by rw [cntIn_is, h.d.sim, h.tot]
  have hc : 0 ≤ cntIn a lo hi ∧ cntIn a lo hi ≤ sumN a := ⟨c0, c1⟩
  refine ⟨?_, by rw [← e, ← divInt_rat (by omega)]; exact qb_divInt (by omega) (by omega) (by omega), e⟩
  have iff : Ew (ways c) (inQ lo hi) / Tc c = 1 ↔ cntIn a lo hi = sumN a := by
    rw [← e]
    have hne : ((sumN a : Int) : Rat) ≠ 0 := by exact_mod_cast (by omega : sumN a ≠ 0)
    constructor
    · intro z
      have : (cntIn a lo hi : Rat) = (sumN a : Rat) := by
        have h1 := Rat.div_mul_cancel (a := ((cntIn a lo hi : Int) : Rat)) hne
        rw [z] at h1
        grind
      exact_mod_cast this
    · intro z
      rw [z]
      rw [Rat.div_def, Rat.mul_inv_cancel _ hne]
  obtain ⟨r1, r2, r3, _⟩ := h.range
  have all : cntIn a lo hi = sumN a ↔ lo ≤ loC c ∧ hiC c ≤ hi := by
    constructor
    · intro z
      have k := c2 z
      obtain ⟨p, hp, ep⟩ := List.mem_map.mp r1
      obtain ⟨q, hq, eq⟩ := List.mem_map.mp r2
      have k1 := k p hp
      have k2 := k q hq
      simp only [decide_eq_true_eq] at k1 k2
      exact ⟨by omega, by omega⟩
    · rintro ⟨z1, z2⟩
      unfold cntIn sumN
      congr 2
      refine List.filter_eq_self.mpr fun p hp => ?_
      have := r3 p.1 (List.mem_map.mpr ⟨p, hp, rfl⟩)
      simp only [decide_eq_true_eq]
      omega
  rw [← Bool.decide_and]
  exact decide_eq_decide.mpr (iff.trans all)
theorem turn_loop {c : List Link} {a b : Wt} (h : Due c a) {ds : List Int} (hd : Drawn ds) (S O K P : Sl) (s11 : Option Sl) :
    loopD [10, 12, 13, 14, 15, 16] (.n 12) b_law_4 ((List.range 5).map fun i : Nat => PyData.int (0 + (i : Nat))) [some S, some (.p (encI ds)), some (.p (encC c)), some O, some K, some (.p (.dict (encD a))), some (.k (encD b)), some (.p (.int (sumN a))), some (.p (encQ (Mc c))), some P, none, s11, none, none, none, none, none, none, none, none] =
      some (.nx [some S, some (.p (encI ds)), some (.p (encC c)), some O, some K, some (.p (.dict (encD a))), some (.k (encD b)), some (.p (.int (sumN a))), some (.p (encQ (Mc c))), some P, none, s11, none, none, none, none, none, none, none, none]) := by
  obtain ⟨r1, r2, r3, r4, r5, r6⟩ := h.range
  have t0 := h.tot_b
  have hlh := (r3 _ r2).1
  refine loop_fn (fs := [10, 12, 13, 14, 15, 16]) (p := .n 12) (gb := b_law_4) (fun i : Nat => PyData.int (0 + (i : Nat))) (fun _ => [some S, some (.p (encI ds)), some (.p (encC c)), some O, some K, some (.p (.dict (encD a))), some (.k (encD b)), some (.p (.int (sumN a))), some (.p (encQ (Mc c))), some P, none, s11, none, none, none, none, none, none, none, none]) (List.range 5) fun pre x post e => ?_
  have hx : x < 5 := by simpa using mem_mid e
  have m2 : mulS (.int 2) (.int x) = some (.p (.int (2 * x))) := d_mulB (a := 2) (b := 4) (by decide) (by omega) (by decide)
  have mx1 := mix_F hd (k := 150 + 2 * (x : Int)) (many := hiC c - loC c + 3) (by omega) (by omega) (by omega)
  have mx2 := mix_F hd (k := 151 + 2 * (x : Int)) (many := hiC c - loC c + 3) (by omega) (by omega) (by omega)
  obtain ⟨p1, p2⟩ := mixT_pos ds (150 + 2 * (x : Int)) (many := hiC c - loC c + 3) (by omega)
  obtain ⟨p3, p4⟩ := mixT_pos ds (151 + 2 * (x : Int)) (many := hiC c - loC c + 3) (by omega)
  generalize mixT ds (150 + 2 * (x : Int)) (hiC c - loC c + 3) = u at mx1 p1 p2
  generalize mixT ds (151 + 2 * (x : Int)) (hiC c - loC c + 3) = v at mx2 p3 p4
  have sh := share_F h.g (lo := loC c + u - 1) (hi := loC c + u - 1 + v) (by omega) fun a' ha' => by
    have := (Due.mk ha' h.g h.n5).tot_b
    exact ⟨this.1, by omega⟩
  obtain ⟨s1, s2, s3⟩ := share_one h (loC c + u - 1) (loC c + u - 1 + v)
  have lf := lawFrac (n := cntIn a (loC c + u - 1) (loC c + u - 1 + v)) (d := sumN a) (by omega) (by omega)
  rw [s3] at lf
  obtain ⟨rp, ok⟩ := repr_Q (s2.mono (by decide))
  have hmin := h.min
  have hmax := h.max
  have cm := comp_dueF (a := a) (ft := f1 bo (fChain leD leD (fV 13) (fV 10) (fV 14))) (fe := f2 getI (fV 5) (fV 10)) (ρ := [some S, some (.p (encI ds)), some (.p (encC c)), some O, some K, some (.p (.dict (encD a))), some (.k (encD b)), some (.p (.int (sumN a))), some (.p (encQ (Mc c))), some P, none, s11, some (.p (.int x)), some (.p (.int (loC c + u - 1))), some (.p (.int (loC c + u - 1 + v))), none, none, none, none, none])
    (fun p => decide (loC c + u - 1 ≤ p.1 ∧ p.1 ≤ loC c + u - 1 + v)) (fun p => .int p.2) fun p hp => by
      refine ⟨?_, fun _ => by simp [getI_is h.d.nd hp]⟩
      by_cases h1 : loC c + u - 1 ≤ p.1
      · simp [h1]
      · simp [h1]
  have q1 : (a.filter fun p => decide (loC c + u - 1 ≤ p.1 ∧ p.1 ≤ loC c + u - 1 + v)).map (fun p => PyData.int p.2) = ((a.filter fun p => decide (loC c + u - 1 ≤ p.1 ∧ p.1 ≤ loC c + u - 1 + v)).map fun p => p.2).map PyData.int := by rw [List.map_map]; rfl
  rw [q1] at cm
  unfold cntIn at lf
  generalize hF : ((a.filter fun p => decide (loC c + u - 1 ≤ p.1 ∧ p.1 ≤ loC c + u - 1 + v)).map fun p => p.2) = F at cm lf
  generalize Ew (ways c) (inQ (loC c + u - 1) (loC c + u - 1 + v)) / Tc c = Q at sh s1 lf rp ok
  have nS := d_neS ok
  by_cases hA : loC c + u - 1 ≤ loC c
  · simp [turn, b_law_4, hmin, hmax, m2, mx1, mx2, cm, sh, lf, rp, nS, one_Q, s1, hA, -List.map_map]
  · simp [turn, b_law_4, hmin, hmax, m2, mx1, mx2, cm, sh, lf, rp, nS, one_Q, s1, hA, -List.map_map]
/-- the bound of the spread -/
theorem bound {c : List Link} {a : Wt} (h : Due c a) {far : Rat} (hf : 0 < far) : ¬ Vc c < ((((a.map (·.1)).map (outT c a far)).sum : Int) : Rat) / Tc c * (far * far) := by
  have hT := Tc_pos c h.g.gl
  have e1 : ∀ (b : Wt), (∀ p ∈ b, val a p.1 = p.2) → ((((b.map (·.1)).map (outT c a far)).sum : Int) : Rat) = Ew b fun x => if absQ ((x : Rat) - Mc c) < far then 0 else 1 := by
    intro b
    induction b with
    | nil => intro _; simp [Ew]
    | cons p b ih =>
      intro hb
      have i := ih fun q hq => hb q (List.mem_cons_of_mem _ hq)
      rw [List.map_cons, List.map_cons, List.sum_cons, Ew, ← i]
      push_cast
      unfold outT
      split
      · push_cast; grind
      · rw [hb p List.mem_cons_self]; grind
  rw [e1 a fun p hp => val_mem h.d.nd hp, h.d.sim]
  have hV : Vc c = Ew (ways c) (fun w => ((w : Rat) - Mc c) * ((w : Rat) - Mc c)) / Tc c := by
    rw [spread_is c h.g.gl]
    have hne : Tc c ≠ 0 := by grind
    rw [Rat.mul_comm, Rat.mul_div_cancel hne]
  rw [hV]
  have le : Ew (ways c) (fun w => (far * far) * (if absQ ((w : Rat) - Mc c) < far then 0 else 1)) ≤ Ew (ways c) (fun w => ((w : Rat) - Mc c) * ((w : Rat) - Mc c)) := Ew_le fun p hp => by
    refine ⟨by have := h.wpos p hp; omega, ?_⟩
    generalize ((p.1 : Rat) - Mc c) = d
    have sq : absQ d * absQ d = d * d := by unfold absQ; split <;> grind
    have nn : 0 ≤ absQ d := by
      unfold absQ
      split
      · grind
      · grind
    split
    · have := Rat.mul_nonneg nn nn
      grind
    · next hn =>
      have h1 : far ≤ absQ d := Rat.not_lt.mp hn
      have h2 := Rat.mul_le_mul_of_nonneg_left h1 nn
      have h3 := Rat.mul_le_mul_of_nonneg_left h1 (show 0 ≤ far by grind)
      grind
  rw [Ew_mul] at le
  intro z
  have e2 : Ew (ways c) (fun x => if absQ ((x : Rat) - Mc c) < far then 0 else 1) / Tc c * (far * far) = (far * far * Ew (ways c) (fun x => if absQ ((x : Rat) - Mc c) < far then 0 else 1)) / Tc c := by
    simp only [Rat.div_def]; grind
  rw [e2] at z
  have inv : 0 < (Tc c)⁻¹ := Rat.inv_pos.mpr hT
  simp only [Rat.div_def] at z
  have := Rat.mul_le_mul_of_nonneg_left le (show 0 ≤ (Tc c)⁻¹ by grind)
  grind
end K54

set_option Elab.async false
set_option linter.all false
set_option maxRecDepth 100000
/-! k54: the law holds. -/
namespace K54
open PySem DL
theorem Mc_one (l : Link) : Mc [l] = mL l := by unfold Mc; simp [sumQ]; grind
theorem Vc_one (l : Link) : Vc [l] = va l.errs := by unfold Vc; simp [sumQ]; grind
theorem Mc_app2 (c o : List Link) : Mc (c ++ o) = Mc c + Mc o := by unfold Mc; rw [List.map_append, sumQ_append]
theorem Vc_app2 (c o : List Link) : Vc (c ++ o) = Vc c + Vc o := by unfold Vc; rw [List.map_append, sumQ_append]
theorem Mc_rev (c : List Link) : Mc c.reverse = Mc c := by unfold Mc; rw [List.map_reverse]; exact sumQ_perm (List.reverse_perm _)
theorem Mc_qb {c : List Link} (g : GoodC c) : QB 113 (Mc c) := by
  have n1 := g.n1
  refine (qb_sum (k := 13) fun q hq => ?_).mono (by rw [List.length_map]; omega)
  obtain ⟨l, hl, e⟩ := List.mem_map.mp hq
  rw [← e]; exact mL_qb (g.gl l hl)
theorem neK_is {a b ps qs : Wt} (ha : IsD a ps) (hb : IsD b qs) (s : Sim ps qs) : neKD (.dict (encD a)) (.dict (encD b)) = some (.bool false) := by unfold neKD; rw [eqK_is ha hb s]; rfl
theorem eqKD_is {a b ps qs : Wt} (ha : IsD a ps) (hb : IsD b qs) (s : Sim ps qs) : eqKD (.dict (encD a)) (.dict (encD b)) = some (.bool true) := by unfold eqKD; rw [eqK_is ha hb s]; rfl
theorem law_true (ns : List Int) (_ : ns.length ≤ 63) (_ : ∀ z ∈ ns, Builtin.Int.intBits z ≤ 1048576) : F_law ns = some (.p (.bool true)) := by
  obtain ⟨ds, hd, _, hds⟩ := draws_F ns
  obtain ⟨c, c1, c2, cg, hc⟩ := chain_is hd (k := 10) (most := 5) (by omega) (by omega) (by omega) (by omega)
  obtain ⟨o, o1, o2, og, ho⟩ := chain_is hd (k := 80) (most := 3) (by omega) (by omega) (by omega) (by omega)
  have gc : GoodC c := ⟨c1, by omega, cg⟩
  have go' : GoodC o := ⟨o1, by omega, og⟩
  have gco : GoodC (c ++ o) := ⟨by simp; omega, by simp; omega, fun l hl => by
    rcases List.mem_append.mp hl with h | h
    · exact cg l h
    · exact og l h⟩
  have grev : GoodC c.reverse := ⟨by simp; omega, by simp; omega, fun l hl => cg l (by simpa using hl)⟩
  obtain ⟨a, ha, hlw⟩ := lawWays_is gc
  have du : Due c a := ⟨ha, gc, by omega⟩
  obtain ⟨b, hb, hwb⟩ := ways_F gc
  obtain ⟨rv, hrv, hwr⟩ := ways_F grev
  have t0 := du.tot_b
  have few := du.few
  -- texts
  obtain ⟨rk, okk⟩ := repr_two cg og (by omega) (by omega)
  generalize hK : (PyData.tuple [encC c, encC o]).shown = K at rk okk
  obtain ⟨r1, r2, r3, r4, r5, r6⟩ := du.range
  have hlohi := (r3 _ r2).1
  obtain ⟨re, oke⟩ := repr_pair (i := loC c) (j := hiC c) (by omega) (by omega)
  have he := ends_F gc
  have hmin := du.min
  have hmax := du.max
  have nk1 := neK_is hb ha (fun _ => rfl)
  have nse := d_neS oke
  -- the sums over the dict
  have cm7 := fun (ρ : En) (h5 : ∀ x, fV 5 (ρ.set 10 (some x)) = some (.dict (encD a))) (h10 : ∀ x, fV 10 (ρ.set 10 (some (.p x))) = some x) => comp_due (a := a) (ft := fYes) (fe := f2 getI (fV 5) (fV 10)) (ρ := ρ) (fun p => .int p.2) fun p hp => ⟨rfl, by show (fV 5 _).bind _ = _; rw [h5]; show (fV 10 _).bind _ = _; rw [h10]; exact getI_is ha.nd hp⟩
  have q7 : a.map (fun p => PyData.int p.2) = (a.map fun p => p.2).map PyData.int := by rw [List.map_map]; rfl
  have cm8 := fun (ρ : En) (h5 : ∀ x, fV 5 (ρ.set 10 (some x)) = some (.dict (encD a))) (h10 : ∀ x, fV 10 (ρ.set 10 (some (.p x))) = some x) => comp_due (a := a) (ft := fYes) (fe := frz (f2 mulS (fV 10) (f2 getI (fV 5) (fV 10)))) (ρ := ρ) (fun p => .int (p.1 * p.2)) fun p hp => ⟨rfl, by
    have hx := du.abs (List.mem_map.mpr ⟨p, hp, rfl⟩ : p.1 ∈ a.map (·.1))
    have hv := val_sum ha.pos hp
    have hp0 := ha.pos p hp
    have m := d_mulB (i := p.1) (j := p.2) (a := 8) (b := 18) (by omega) (by omega) (by decide)
    rw [ev_frz, ev_2, ev_2, h5, h10]
    simp [getI_is ha.nd hp, m]⟩
  have q8 : a.map (fun p => PyData.int (p.1 * p.2)) = (a.map fun p => p.1 * p.2).map PyData.int := by rw [List.map_map]; rfl
  rw [q7] at cm7
  rw [q8] at cm8
  obtain ⟨mid, mqb⟩ := du.mid
  have lmid := lawFrac (n := sumP a) (d := sumN a) (by omega) (by omega)
  rw [mid] at lmid
  obtain ⟨ks, hks, hso⟩ := sortK_is a
  -- mean, spread
  have hm := mean_F gc
  obtain ⟨hs, sqb⟩ := spread_F gc
  obtain ⟨rm, okm⟩ := repr_Q (mqb.mono (by decide))
  obtain ⟨rs, oks⟩ := repr_Q (sqb.mono (by decide))
  have pqb : ∀ q ∈ ks.map (partQ c a), QB 88 q := fun q hq => by
    obtain ⟨x, hx, e⟩ := List.mem_map.mp hq
    rw [← e]; exact (part_qb du (hks.mem_iff.mp hx)).2.2.2
  have kl : ks.length = a.length := by have := hks.length_eq; rwa [List.length_map] at this
  have lad := lawAdded_F pqb (by rw [List.length_map]; omega)
  have psum : sumQ (ks.map (partQ c a)) = Vc c := by
    have := sum_keys du (fun x => ((x : Rat) - Mc c) * ((x : Rat) - Mc c)) hks
    rw [spread_is c cg] at this
    have hne : Tc c ≠ 0 := by have := Tc_pos c cg; grind
    rw [Rat.mul_comm, Rat.mul_div_cancel hne] at this
    exact this
  rw [psum] at lad
  have nsm := d_neS okm
  have nss := d_neS oks
  -- link by link
  have cm19 := fun (ρ : En) (h : ∀ x, fV 19 (ρ.set 19 (some (.p x))) = some x) => comp_map (p := .n 19) (ft := fYes) (fe := b_law_2) (ρ := ρ) encL (fun l => encQ (mL l)) c fun l hl => ⟨_, pm_n _ _ _, rfl, by
    have hm1 := mean_F (c := [l]) ⟨by simp, by simp, fun k hk => by rw [List.mem_singleton.mp hk]; exact cg l hl⟩
    rw [Mc_one] at hm1
    unfold b_law_2
    rw [ev_frz, ev_1, ev_cons, ev_frz, ev_1, ev_cons, h]
    simp [encC] at hm1 ⊢
    simp [hm1]⟩
  have q19 : c.map (fun l => encQ (mL l)) = (c.map mL).map encQ := by rw [List.map_map]; rfl
  rw [q19] at cm19
  have cm20 := fun (ρ : En) (h : ∀ x, fV 19 (ρ.set 19 (some (.p x))) = some x) => comp_map (p := .n 19) (ft := fYes) (fe := b_law_3) (ρ := ρ) encL (fun l => encQ (va l.errs)) c fun l hl => ⟨_, pm_n _ _ _, rfl, by
    have hm1 := (spread_F (c := [l]) ⟨by simp, by simp, fun k hk => by rw [List.mem_singleton.mp hk]; exact cg l hl⟩).1
    rw [Vc_one] at hm1
    unfold b_law_3
    rw [ev_frz, ev_1, ev_cons, ev_frz, ev_1, ev_cons, h]
    simp [encC] at hm1 ⊢
    simp [hm1]⟩
  have q20 : c.map (fun l => encQ (va l.errs)) = (c.map fun l => va l.errs).map encQ := by rw [List.map_map]; rfl
  rw [q20] at cm20
  have lam := lawAdded_F (k := 13) (qs := c.map mL) (fun q hq => by
    obtain ⟨l, hl, e⟩ := List.mem_map.mp hq
    rw [← e]; exact mL_qb (cg l hl)) (by rw [List.length_map]; omega)
  have lav := lawAdded_F (k := 76) (qs := c.map fun l => va l.errs) (fun q hq => by
    obtain ⟨l, hl, e⟩ := List.mem_map.mp hq
    rw [← e]; exact (va_qb (cg l hl)).1) (by rw [List.length_map]; omega)
  have lam' : F__law_added [.list ((c.map mL).map encQ)] = some (.p (encQ (Mc c))) := lam
  have lav' : F__law_added [.list ((c.map fun l => va l.errs).map encQ)] = some (.p (encQ (Vc c))) := lav
  -- one behind the other, backwards
  have hmo := mean_F go'
  obtain ⟨hso', sqo⟩ := spread_F go'
  have hmco := mean_F gco
  obtain ⟨hsco, _⟩ := spread_F gco
  rw [Mc_app2] at hmco
  rw [Vc_app2] at hsco
  have lp1 := lawPlus_F mqb (Mc_qb go') (by decide)
  have lp2 := lawPlus_F sqb sqo (by decide)
  have hmr := mean_F grev
  rw [Mc_rev] at hmr
  have nk2 := neK_is hrv ha (sim_rev c)
  have adCO : addS (.list (c.map encL)) (.list (o.map encL)) = some (.l ((c ++ o).map encL)) := by
    show (if _ then _ else _) = _
    rw [if_pos (by simp only [List.length_map, most_is]; omega), List.map_append]
  have revC : revS (.list (c.map encL)) = some (.l (c.reverse.map encL)) := by
    show some (Sl.l (c.map encL).reverse) = _
    rw [List.map_reverse]
  -- the loops
  obtain ⟨s11, lp⟩ := parts_loop (b := b) du (.s ns) (.p (encI ds)) (.p (encC c)) (.p (encC o)) (.p (.str K)) hks
  have lt := turn_loop (b := b) du hd (.s ns) (.p (encC o)) (.p (.str K)) (.p (.list ((ks.map (partQ c a)).map encQ))) s11
  obtain ⟨f0, f1'⟩ := mixT_pos ds 170 (many := 20) (by omega)
  obtain ⟨f2', f3⟩ := mixT_pos ds 171 (many := 3) (by omega)
  have mx1 := mix_F hd (k := 170) (many := 20) (by omega) (by omega) (by omega)
  have mx2 := mix_F hd (k := 171) (many := 3) (by omega) (by omega) (by omega)
  generalize mixT ds 170 20 = u at f0 f1' mx1
  generalize mixT ds 171 3 = v at f2' f3 mx2
  have lfar := lawFrac (n := 1 + u) (d := 1 + v) (by omega) (by omega)
  have fqb : QB 10 (((1 + u : Int) : Rat) / ((1 + v : Int) : Rat)) := by
    rw [← divInt_rat (by omega)]
    exact qb_divInt (by omega) (by omega) (by omega)
  have fpos : 0 < ((1 + u : Int) : Rat) / ((1 + v : Int) : Rat) := by
    have h1 : (0 : Rat) < ((1 + u : Int) : Rat) := by exact_mod_cast (by omega : 0 < 1 + u)
    have h2 : (0 : Rat) < ((1 + v : Int) : Rat) := by exact_mod_cast (by omega : 0 < 1 + v)
    rw [Rat.div_def]
    exact Rat.mul_pos h1 (Rat.inv_pos.mpr h2)
  generalize ((1 + u : Int) : Rat) / ((1 + v : Int) : Rat) = far at lfar fqb fpos
  obtain ⟨s11', lo⟩ := out_loop (b := b) du fqb (.s ns) (.p (encI ds)) (.p (encC c)) (.p (encC o)) (.p (.str K)) (.p (.list ((ks.map (partQ c a)).map encQ))) s11
  have hout : 0 ≤ ((a.map (·.1)).map (outT c a far)).sum ∧ ((a.map (·.1)).map (outT c a far)).sum ≤ 51 * 248832 := by
    have key : ∀ l : List Int, (∀ x ∈ l, x ∈ a.map (·.1)) → 0 ≤ (l.map (outT c a far)).sum ∧ (l.map (outT c a far)).sum ≤ l.length * 248832 := by
      intro l
      induction l with
      | nil => intro _; simp
      | cons x l ih =>
        intro h
        have i := ih fun y hy => h y (List.mem_cons_of_mem _ hy)
        have hv := val_b du (h x List.mem_cons_self)
        have : 0 ≤ outT c a far x ∧ outT c a far x ≤ 248832 := by unfold outT; split <;> omega
        rw [List.map_cons, List.sum_cons, List.length_cons]
        push_cast
        omega
    have := key (a.map (·.1)) fun x hx => hx
    rw [List.length_map] at this
    omega
  have bd := bound du fpos
  generalize ((a.map (·.1)).map (outT c a far)).sum = out at lo hout bd
  have lout := lawFrac (n := out) (d := sumN a) (by omega) (by omega)
  rw [du.tot] at lout
  have oqb : QB 30 ((out : Rat) / Tc c) := by
    rw [← du.tot, ← divInt_rat (by omega)]
    exact qb_divInt (by omega) (by omega) (by omega)
  have lf2 := lawTimes_F fqb fqb (by decide)
  have lo2 := lawTimes_F oqb (fqb.mul fqb) (by decide)
  have ll := lawLess_F sqb (oqb.mul (fqb.mul fqb)) (by decide)
  rw [decide_eq_false bd] at ll
  have eqk := eqKD_is hb ha (fun _ => rfl)
  have eqs := d_eqS okk
  unfold F_law runS
  -- line by line
  refine go (ρ' := [some (.s ns), some (.p (encI ds)), none, none, none, none, none, none, none, none, none, none, none, none, none, none, none, none, none, none]) (by simp [scrOf, hds]) ?_
  refine go (ρ' := [some (.s ns), some (.p (encI ds)), some (.p (encC c)), none, none, none, none, none, none, none, none, none, none, none, none, none, none, none, none, none]) (by simp [hc, encC]) ?_
  refine go (ρ' := [some (.s ns), some (.p (encI ds)), some (.p (encC c)), some (.p (encC o)), none, none, none, none, none, none, none, none, none, none, none, none, none, none, none, none]) (by simp [ho, encC]) ?_
  refine go (ρ' := [some (.s ns), some (.p (encI ds)), some (.p (encC c)), some (.p (encC o)), some (.p (.str K)), none, none, none, none, none, none, none, none, none, none, none, none, none, none, none]) (by simp [rk]) ?_
  refine go (ρ' := [some (.s ns), some (.p (encI ds)), some (.p (encC c)), some (.p (encC o)), some (.p (.str K)), some (.p (.dict (encD a))), none, none, none, none, none, none, none, none, none, none, none, none, none, none]) (by simp [hlw]) ?_
  refine go (ρ' := [some (.s ns), some (.p (encI ds)), some (.p (encC c)), some (.p (encC o)), some (.p (.str K)), some (.p (.dict (encD a))), some (.k (encD b)), none, none, none, none, none, none, none, none, none, none, none, none, none]) (by simp [hwb]) ?_
  refine go (ρ' := [some (.s ns), some (.p (encI ds)), some (.p (encC c)), some (.p (encC o)), some (.p (.str K)), some (.p (.dict (encD a))), some (.k (encD b)), some (.p (.int (sumN a))), none, none, none, none, none, none, none, none, none, none, none, none]) (by
    have := cm7 [some (.s ns), some (.p (encI ds)), some (.p (encC c)), some (.p (encC o)), some (.p (.str K)), some (.p (.dict (encD a))), some (.k (encD b)), none, none, none, none, none, none, none, none, none, none, none, none, none] (fun _ => rfl) (fun _ => rfl)
    simp [this, -List.map_map]
    rfl) ?_
  refine go (ρ' := [some (.s ns), some (.p (encI ds)), some (.p (encC c)), some (.p (encC o)), some (.p (.str K)), some (.p (.dict (encD a))), some (.k (encD b)), some (.p (.int (sumN a))), none, none, none, none, none, none, none, none, none, none, none, none]) (by
    have e1 : F_ends [encC c] = some (.p (.tuple [.int (loC c), .int (hiC c)])) := he
    simp [nk1, e1, re, hmin, hmax, nse]) ?_
  refine go (ρ' := [some (.s ns), some (.p (encI ds)), some (.p (encC c)), some (.p (encC o)), some (.p (.str K)), some (.p (.dict (encD a))), some (.k (encD b)), some (.p (.int (sumN a))), some (.p (encQ (Mc c))), none, none, none, none, none, none, none, none, none, none, none]) (by
    have := cm8 [some (.s ns), some (.p (encI ds)), some (.p (encC c)), some (.p (encC o)), some (.p (.str K)), some (.p (.dict (encD a))), some (.k (encD b)), some (.p (.int (sumN a))), none, none, none, none, none, none, none, none, none, none, none, none] (fun _ => rfl) (fun _ => rfl)
    have e : (a.map fun p => p.1 * p.2).sum = sumP a := rfl
    simp [this, e, lmid, -List.map_map]) ?_
  refine go (ρ' := [some (.s ns), some (.p (encI ds)), some (.p (encC c)), some (.p (encC o)), some (.p (.str K)), some (.p (.dict (encD a))), some (.k (encD b)), some (.p (.int (sumN a))), some (.p (encQ (Mc c))), some (.l []), none, none, none, none, none, none, none, none, none, none]) (by simp) ?_
  refine go (ρ' := [some (.s ns), some (.p (encI ds)), some (.p (encC c)), some (.p (encC o)), some (.p (.str K)), some (.p (.dict (encD a))), some (.k (encD b)), some (.p (.int (sumN a))), some (.p (encQ (Mc c))), some (.l ((ks.map (partQ c a)).map encQ)), none, s11, none, none, none, none, none, none, none, none]) (by simp [hso, lp, -List.map_map]) ?_
  refine go (ρ' := [some (.s ns), some (.p (encI ds)), some (.p (encC c)), some (.p (encC o)), some (.p (.str K)), some (.p (.dict (encD a))), some (.k (encD b)), some (.p (.int (sumN a))), some (.p (encQ (Mc c))), some (.p (.list ((ks.map (partQ c a)).map encQ))), none, s11, none, none, none, none, none, none, none, none]) (by simp [relE, hm, rm, nsm, hs, rs, nss, lad, -List.map_map]) ?_
  refine go (ρ' := [some (.s ns), some (.p (encI ds)), some (.p (encC c)), some (.p (encC o)), some (.p (.str K)), some (.p (.dict (encD a))), some (.k (encD b)), some (.p (.int (sumN a))), some (.p (encQ (Mc c))), some (.p (.list ((ks.map (partQ c a)).map encQ))), none, s11, none, none, none, none, none, none, none, none]) (by
    have k1 := cm19 [some (.s ns), some (.p (encI ds)), some (.p (encC c)), some (.p (encC o)), some (.p (.str K)), some (.p (.dict (encD a))), some (.k (encD b)), some (.p (.int (sumN a))), some (.p (encQ (Mc c))), some (.p (.list ((ks.map (partQ c a)).map encQ))), none, s11, none, none, none, none, none, none, none, none] (fun _ => rfl)
    have k2 := cm20 [some (.s ns), some (.p (encI ds)), some (.p (encC c)), some (.p (encC o)), some (.p (.str K)), some (.p (.dict (encD a))), some (.k (encD b)), some (.p (.int (sumN a))), some (.p (encQ (Mc c))), some (.p (.list ((ks.map (partQ c a)).map encQ))), none, s11, none, none, none, none, none, none, none, none] (fun _ => rfl)
    unfold encC at hm hs k1 k2
    simp [encC, hm, hs, k1, k2, lam', lav', -List.map_map]) ?_
  refine go (ρ' := [some (.s ns), some (.p (encI ds)), some (.p (encC c)), some (.p (encC o)), some (.p (.str K)), some (.p (.dict (encD a))), some (.k (encD b)), some (.p (.int (sumN a))), some (.p (encQ (Mc c))), some (.p (.list ((ks.map (partQ c a)).map encQ))), none, s11, none, none, none, none, none, none, none, none]) (by
    unfold encC at hmco hsco hmo hso' hs
    simp [encC, adCO, hmco, hsco, hmo, hso', hs, lp1, lp2, -List.map_append, -List.map_map]) ?_
  refine go (ρ' := [some (.s ns), some (.p (encI ds)), some (.p (encC c)), some (.p (encC o)), some (.p (.str K)), some (.p (.dict (encD a))), some (.k (encD b)), some (.p (.int (sumN a))), some (.p (encQ (Mc c))), some (.p (.list ((ks.map (partQ c a)).map encQ))), none, s11, none, none, none, none, none, none, none, none]) (by
    unfold encC at hwr hmr
    simp [encC, revC, hwr, hmr, nk2, -List.map_reverse, -List.map_map]) ?_
  refine go (ρ' := [some (.s ns), some (.p (encI ds)), some (.p (encC c)), some (.p (encC o)), some (.p (.str K)), some (.p (.dict (encD a))), some (.k (encD b)), some (.p (.int (sumN a))), some (.p (encQ (Mc c))), some (.p (.list ((ks.map (partQ c a)).map encQ))), none, s11, none, none, none, none, none, none, none, none]) (by
    have r5 := d_range1 (n := 5) (by omega)
    rw [st_for, ev_1, ev_C]
    show (range1D (.int ((5 : Nat) : Int))).bind _ = _
    rw [r5]
    exact lt) ?_
  refine go (ρ' := [some (.s ns), some (.p (encI ds)), some (.p (encC c)), some (.p (encC o)), some (.p (.str K)), some (.p (.dict (encD a))), some (.k (encD b)), some (.p (.int (sumN a))), some (.p (encQ (Mc c))), some (.p (.list ((ks.map (partQ c a)).map encQ))), none, s11, none, none, none, none, none, some (.p (encQ far)), none, none]) (by simp [mx1, mx2, lfar]) ?_
  refine go (ρ' := [some (.s ns), some (.p (encI ds)), some (.p (encC c)), some (.p (encC o)), some (.p (.str K)), some (.p (.dict (encD a))), some (.k (encD b)), some (.p (.int (sumN a))), some (.p (encQ (Mc c))), some (.p (.list ((ks.map (partQ c a)).map encQ))), none, s11, none, none, none, none, none, some (.p (encQ far)), some (.p (.int 0)), none]) (by simp) ?_
  refine go (ρ' := [some (.s ns), some (.p (encI ds)), some (.p (encC c)), some (.p (encC o)), some (.p (.str K)), some (.p (.dict (encD a))), some (.k (encD b)), some (.p (.int (sumN a))), some (.p (encQ (Mc c))), some (.p (.list ((ks.map (partQ c a)).map encQ))), none, s11', none, none, none, none, none, some (.p (encQ far)), some (.p (.int out)), none]) (by
    rw [st_for, ev_1]
    exact lo) ?_
  refine go (ρ' := [some (.s ns), some (.p (encI ds)), some (.p (encC c)), some (.p (encC o)), some (.p (.str K)), some (.p (.dict (encD a))), some (.k (encD b)), some (.p (.int (sumN a))), some (.p (encQ (Mc c))), some (.p (.list ((ks.map (partQ c a)).map encQ))), none, s11', none, none, none, none, none, some (.p (encQ far)), some (.p (.int out)), none]) (by simp [hs, lout, lf2, lo2, ll, -List.map_map]) ?_
  refine go (ρ' := [some (.s ns), some (.p (encI ds)), some (.p (encC c)), some (.p (encC o)), some (.p (.str K)), some (.p (.dict (encD a))), some (.k []), some (.p (.int (sumN a))), some (.p (encQ (Mc c))), some (.p (.list ((ks.map (partQ c a)).map encQ))), none, s11', none, none, none, none, none, some (.p (encQ far)), some (.p (.int out)), none]) (by simp [ownK]) ?_
  simp [hwb, eqk, rk, eqs, endD, -List.map_map]
end K54

set_option Elab.async false
set_option linter.all false
set_option maxRecDepth 100000
namespace K54
open PySem PySem.Spec PyProof.Rows L2 DL
set_option maxHeartbeats 0 in
theorem all_mk {P : Program} {w : World} {K : PySem.W.Frag} {h : Heap} {mg : Str → Option Value} {fa : Addr} (X : K.In h) (G : h.Ns mainGlobals mg) (hfa : mg "law" = some (.ref fa))
    {f7 f8 f9 f10 f11 f18 f19 f20 f21 f22 f23 f24 f25 f26 f27 f29 f30 f31 f32 f33 f34 f35 f36 f37 f38 : Addr} {od7 an7 od8 an8 od9 an9 od10 an10 od11 an11 od18 an18 od19 an19 od20 an20 od21 an21 od22 an22 od23 an23 od24 an24 od25 an25 od26 an26 od27 an27 od29 an29 od30 an30 od31 an31 od32 an32 od33 an33 od34 an34 od35 an35 od36 an36 od37 an37 od38 an38 : Option Addr} {sl7 sl8 sl9 sl10 sl11 sl18 sl19 sl20 sl21 sl22 sl23 sl24 sl25 sl26 sl27 sl29 sl30 sl31 sl32 sl33 sl34 sl35 sl36 sl37 sl38 : Array (Option Value)} {oc7 kV7 dc7 pm7 cd7 ct7 oc8 kV8 dc8 pm8 cd8 ct8 oc9 kV9 dc9 pm9 cd9 ct9 oc10 kV10 dc10 pm10 cd10 ct10 oc11 kV11 dc11 pm11 cd11 ct11 oc18 kV18 dc18 pm18 cd18 ct18 oc19 kV19 dc19 pm19 cd19 ct19 oc20 kV20 dc20 pm20 cd20 ct20 oc21 kV21 dc21 pm21 cd21 ct21 oc22 kV22 dc22 pm22 cd22 ct22 oc23 kV23 dc23 pm23 cd23 ct23 oc24 kV24 dc24 pm24 cd24 ct24 oc25 kV25 dc25 pm25 cd25 ct25 oc26 kV26 dc26 pm26 cd26 ct26 oc27 kV27 dc27 pm27 cd27 ct27 oc29 kV29 dc29 pm29 cd29 ct29 oc30 kV30 dc30 pm30 cd30 ct30 oc31 kV31 dc31 pm31 cd31 ct31 oc32 kV32 dc32 pm32 cd32 ct32 oc33 kV33 dc33 pm33 cd33 ct33 oc34 kV34 dc34 pm34 cd34 ct34 oc35 kV35 dc35 pm35 cd35 ct35 oc36 kV36 dc36 pm36 cd36 ct36 oc37 kV37 dc37 pm37 cd37 ct37 oc38 kV38 dc38 pm38 cd38 ct38 : Value} {t_MOST_COUNT t_MOST_ERROR t_MOST_ERRORS t_MOST_LINK t_MOST_LINKS : Tok}
    (a__law_added : PySem.W.nsIn K mainGlobals "_law_added" = some (some (.ref f35)))
    (a__law_chain : PySem.W.nsIn K mainGlobals "_law_chain" = some (some (.ref f36)))
    (a__law_draws : PySem.W.nsIn K mainGlobals "_law_draws" = some (some (.ref f29)))
    (a__law_fraction : PySem.W.nsIn K mainGlobals "_law_fraction" = some (some (.ref f31)))
    (a__law_less : PySem.W.nsIn K mainGlobals "_law_less" = some (some (.ref f34)))
    (a__law_mix : PySem.W.nsIn K mainGlobals "_law_mix" = some (some (.ref f30)))
    (a__law_plus : PySem.W.nsIn K mainGlobals "_law_plus" = some (some (.ref f32)))
    (a__law_times : PySem.W.nsIn K mainGlobals "_law_times" = some (some (.ref f33)))
    (a__law_ways : PySem.W.nsIn K mainGlobals "_law_ways" = some (some (.ref f37)))
    (a_check_chain : PySem.W.nsIn K mainGlobals "check_chain" = some (some (.ref f19)))
    (a_ends : PySem.W.nsIn K mainGlobals "ends" = some (some (.ref f22)))
    (a_fraction : PySem.W.nsIn K mainGlobals "fraction" = some (some (.ref f7)))
    (a_is_link : PySem.W.nsIn K mainGlobals "is_link" = some (some (.ref f18)))
    (a_law : PySem.W.nsIn K mainGlobals "law" = some (some (.ref f38)))
    (a_mean : PySem.W.nsIn K mainGlobals "mean" = some (some (.ref f24)))
    (a_mean_error : PySem.W.nsIn K mainGlobals "mean_error" = some (some (.ref f23)))
    (a_minus : PySem.W.nsIn K mainGlobals "minus" = some (some (.ref f9)))
    (a_plus : PySem.W.nsIn K mainGlobals "plus" = some (some (.ref f8)))
    (a_share : PySem.W.nsIn K mainGlobals "share" = some (some (.ref f27)))
    (a_spread : PySem.W.nsIn K mainGlobals "spread" = some (some (.ref f26)))
    (a_spread_of : PySem.W.nsIn K mainGlobals "spread_of" = some (some (.ref f25)))
    (a_times : PySem.W.nsIn K mainGlobals "times" = some (some (.ref f10)))
    (a_total : PySem.W.nsIn K mainGlobals "total" = some (some (.ref f11)))
    (a_ways : PySem.W.nsIn K mainGlobals "ways" = some (some (.ref f21)))
    (a_ways_of : PySem.W.nsIn K mainGlobals "ways_of" = some (some (.ref f20)))
    (n_MOST_COUNT : PySem.W.nsIn K mainGlobals "MOST_COUNT" = some (some (.int 100 t_MOST_COUNT)))
    (n_MOST_ERROR : PySem.W.nsIn K mainGlobals "MOST_ERROR" = some (some (.int 50 t_MOST_ERROR)))
    (n_MOST_ERRORS : PySem.W.nsIn K mainGlobals "MOST_ERRORS" = some (some (.int 6 t_MOST_ERRORS)))
    (n_MOST_LINK : PySem.W.nsIn K mainGlobals "MOST_LINK" = some (some (.int 1000 t_MOST_LINK)))
    (n_MOST_LINKS : PySem.W.nsIn K mainGlobals "MOST_LINKS" = some (some (.int 8 t_MOST_LINKS)))
    (g_gcd : PySem.W.nsIn K mainGlobals "gcd" = some (some (.builtin "math.gcd")))
    (z_abs : PySem.W.nsIn K mainGlobals "abs" = some none)
    (z_enumerate : PySem.W.nsIn K mainGlobals "enumerate" = some none)
    (z_int : PySem.W.nsIn K mainGlobals "int" = some none)
    (z_len : PySem.W.nsIn K mainGlobals "len" = some none)
    (z_max : PySem.W.nsIn K mainGlobals "max" = some none)
    (z_min : PySem.W.nsIn K mainGlobals "min" = some none)
    (z_range : PySem.W.nsIn K mainGlobals "range" = some none)
    (z_repr : PySem.W.nsIn K mainGlobals "repr" = some none)
    (z_set : PySem.W.nsIn K mainGlobals "set" = some none)
    (z_sorted : PySem.W.nsIn K mainGlobals "sorted" = some none)
    (z_sum : PySem.W.nsIn K mainGlobals "sum" = some none)
    (l7 : K.lookup f7 = some ⟨oc7, od7, .func (PySem.W.fnOf "fraction" "fraction" (defArgs (topS 7)) (defBody (topS 7)) (defScope (topS 7)) .none kV7 dc7 pm7 an7 cd7 ct7), sl7⟩)
    (c7 : PySem.W.codeIn K cd7 "fraction" = true)
    (k7 : PySem.W.keepIn K (.ref f7) = true)
    (l8 : K.lookup f8 = some ⟨oc8, od8, .func (PySem.W.fnOf "plus" "plus" (defArgs (topS 8)) (defBody (topS 8)) (defScope (topS 8)) .none kV8 dc8 pm8 an8 cd8 ct8), sl8⟩)
    (c8 : PySem.W.codeIn K cd8 "plus" = true)
    (k8 : PySem.W.keepIn K (.ref f8) = true)
    (l9 : K.lookup f9 = some ⟨oc9, od9, .func (PySem.W.fnOf "minus" "minus" (defArgs (topS 9)) (defBody (topS 9)) (defScope (topS 9)) .none kV9 dc9 pm9 an9 cd9 ct9), sl9⟩)
    (c9 : PySem.W.codeIn K cd9 "minus" = true)
    (k9 : PySem.W.keepIn K (.ref f9) = true)
    (l10 : K.lookup f10 = some ⟨oc10, od10, .func (PySem.W.fnOf "times" "times" (defArgs (topS 10)) (defBody (topS 10)) (defScope (topS 10)) .none kV10 dc10 pm10 an10 cd10 ct10), sl10⟩)
    (c10 : PySem.W.codeIn K cd10 "times" = true)
    (k10 : PySem.W.keepIn K (.ref f10) = true)
    (l11 : K.lookup f11 = some ⟨oc11, od11, .func (PySem.W.fnOf "total" "total" (defArgs (topS 11)) (defBody (topS 11)) (defScope (topS 11)) .none kV11 dc11 pm11 an11 cd11 ct11), sl11⟩)
    (c11 : PySem.W.codeIn K cd11 "total" = true)
    (k11 : PySem.W.keepIn K (.ref f11) = true)
    (l18 : K.lookup f18 = some ⟨oc18, od18, .func (PySem.W.fnOf "is_link" "is_link" (defArgs (topS 18)) (defBody (topS 18)) (defScope (topS 18)) .none kV18 dc18 pm18 an18 cd18 ct18), sl18⟩)
    (c18 : PySem.W.codeIn K cd18 "is_link" = true)
    (k18 : PySem.W.keepIn K (.ref f18) = true)
    (l19 : K.lookup f19 = some ⟨oc19, od19, .func (PySem.W.fnOf "check_chain" "check_chain" (defArgs (topS 19)) (defBody (topS 19)) (defScope (topS 19)) .none kV19 dc19 pm19 an19 cd19 ct19), sl19⟩)
    (c19 : PySem.W.codeIn K cd19 "check_chain" = true)
    (k19 : PySem.W.keepIn K (.ref f19) = true)
    (l20 : K.lookup f20 = some ⟨oc20, od20, .func (PySem.W.fnOf "ways_of" "ways_of" (defArgs (topS 20)) (defBody (topS 20)) (defScope (topS 20)) .none kV20 dc20 pm20 an20 cd20 ct20), sl20⟩)
    (c20 : PySem.W.codeIn K cd20 "ways_of" = true)
    (k20 : PySem.W.keepIn K (.ref f20) = true)
    (l21 : K.lookup f21 = some ⟨oc21, od21, .func (PySem.W.fnOf "ways" "ways" (defArgs (topS 21)) (defBody (topS 21)) (defScope (topS 21)) .none kV21 dc21 pm21 an21 cd21 ct21), sl21⟩)
    (c21 : PySem.W.codeIn K cd21 "ways" = true)
    (k21 : PySem.W.keepIn K (.ref f21) = true)
    (l22 : K.lookup f22 = some ⟨oc22, od22, .func (PySem.W.fnOf "ends" "ends" (defArgs (topS 22)) (defBody (topS 22)) (defScope (topS 22)) .none kV22 dc22 pm22 an22 cd22 ct22), sl22⟩)
    (c22 : PySem.W.codeIn K cd22 "ends" = true)
    (k22 : PySem.W.keepIn K (.ref f22) = true)
    (l23 : K.lookup f23 = some ⟨oc23, od23, .func (PySem.W.fnOf "mean_error" "mean_error" (defArgs (topS 23)) (defBody (topS 23)) (defScope (topS 23)) .none kV23 dc23 pm23 an23 cd23 ct23), sl23⟩)
    (c23 : PySem.W.codeIn K cd23 "mean_error" = true)
    (k23 : PySem.W.keepIn K (.ref f23) = true)
    (l24 : K.lookup f24 = some ⟨oc24, od24, .func (PySem.W.fnOf "mean" "mean" (defArgs (topS 24)) (defBody (topS 24)) (defScope (topS 24)) .none kV24 dc24 pm24 an24 cd24 ct24), sl24⟩)
    (c24 : PySem.W.codeIn K cd24 "mean" = true)
    (k24 : PySem.W.keepIn K (.ref f24) = true)
    (l25 : K.lookup f25 = some ⟨oc25, od25, .func (PySem.W.fnOf "spread_of" "spread_of" (defArgs (topS 25)) (defBody (topS 25)) (defScope (topS 25)) .none kV25 dc25 pm25 an25 cd25 ct25), sl25⟩)
    (c25 : PySem.W.codeIn K cd25 "spread_of" = true)
    (k25 : PySem.W.keepIn K (.ref f25) = true)
    (l26 : K.lookup f26 = some ⟨oc26, od26, .func (PySem.W.fnOf "spread" "spread" (defArgs (topS 26)) (defBody (topS 26)) (defScope (topS 26)) .none kV26 dc26 pm26 an26 cd26 ct26), sl26⟩)
    (c26 : PySem.W.codeIn K cd26 "spread" = true)
    (k26 : PySem.W.keepIn K (.ref f26) = true)
    (l27 : K.lookup f27 = some ⟨oc27, od27, .func (PySem.W.fnOf "share" "share" (defArgs (topS 27)) (defBody (topS 27)) (defScope (topS 27)) .none kV27 dc27 pm27 an27 cd27 ct27), sl27⟩)
    (c27 : PySem.W.codeIn K cd27 "share" = true)
    (k27 : PySem.W.keepIn K (.ref f27) = true)
    (l29 : K.lookup f29 = some ⟨oc29, od29, .func (PySem.W.fnOf "_law_draws" "_law_draws" (defArgs (topS 29)) (defBody (topS 29)) (defScope (topS 29)) .none kV29 dc29 pm29 an29 cd29 ct29), sl29⟩)
    (c29 : PySem.W.codeIn K cd29 "_law_draws" = true)
    (k29 : PySem.W.keepIn K (.ref f29) = true)
    (l30 : K.lookup f30 = some ⟨oc30, od30, .func (PySem.W.fnOf "_law_mix" "_law_mix" (defArgs (topS 30)) (defBody (topS 30)) (defScope (topS 30)) .none kV30 dc30 pm30 an30 cd30 ct30), sl30⟩)
    (c30 : PySem.W.codeIn K cd30 "_law_mix" = true)
    (k30 : PySem.W.keepIn K (.ref f30) = true)
    (l31 : K.lookup f31 = some ⟨oc31, od31, .func (PySem.W.fnOf "_law_fraction" "_law_fraction" (defArgs (topS 31)) (defBody (topS 31)) (defScope (topS 31)) .none kV31 dc31 pm31 an31 cd31 ct31), sl31⟩)
    (c31 : PySem.W.codeIn K cd31 "_law_fraction" = true)
    (k31 : PySem.W.keepIn K (.ref f31) = true)
    (l32 : K.lookup f32 = some ⟨oc32, od32, .func (PySem.W.fnOf "_law_plus" "_law_plus" (defArgs (topS 32)) (defBody (topS 32)) (defScope (topS 32)) .none kV32 dc32 pm32 an32 cd32 ct32), sl32⟩)
    (c32 : PySem.W.codeIn K cd32 "_law_plus" = true)
    (k32 : PySem.W.keepIn K (.ref f32) = true)
    (l33 : K.lookup f33 = some ⟨oc33, od33, .func (PySem.W.fnOf "_law_times" "_law_times" (defArgs (topS 33)) (defBody (topS 33)) (defScope (topS 33)) .none kV33 dc33 pm33 an33 cd33 ct33), sl33⟩)
    (c33 : PySem.W.codeIn K cd33 "_law_times" = true)
    (k33 : PySem.W.keepIn K (.ref f33) = true)
    (l34 : K.lookup f34 = some ⟨oc34, od34, .func (PySem.W.fnOf "_law_less" "_law_less" (defArgs (topS 34)) (defBody (topS 34)) (defScope (topS 34)) .none kV34 dc34 pm34 an34 cd34 ct34), sl34⟩)
    (c34 : PySem.W.codeIn K cd34 "_law_less" = true)
    (k34 : PySem.W.keepIn K (.ref f34) = true)
    (l35 : K.lookup f35 = some ⟨oc35, od35, .func (PySem.W.fnOf "_law_added" "_law_added" (defArgs (topS 35)) (defBody (topS 35)) (defScope (topS 35)) .none kV35 dc35 pm35 an35 cd35 ct35), sl35⟩)
    (c35 : PySem.W.codeIn K cd35 "_law_added" = true)
    (k35 : PySem.W.keepIn K (.ref f35) = true)
    (l36 : K.lookup f36 = some ⟨oc36, od36, .func (PySem.W.fnOf "_law_chain" "_law_chain" (defArgs (topS 36)) (defBody (topS 36)) (defScope (topS 36)) .none kV36 dc36 pm36 an36 cd36 ct36), sl36⟩)
    (c36 : PySem.W.codeIn K cd36 "_law_chain" = true)
    (k36 : PySem.W.keepIn K (.ref f36) = true)
    (l37 : K.lookup f37 = some ⟨oc37, od37, .func (PySem.W.fnOf "_law_ways" "_law_ways" (defArgs (topS 37)) (defBody (topS 37)) (defScope (topS 37)) .none kV37 dc37 pm37 an37 cd37 ct37), sl37⟩)
    (c37 : PySem.W.codeIn K cd37 "_law_ways" = true)
    (k37 : PySem.W.keepIn K (.ref f37) = true)
    (l38 : K.lookup f38 = some ⟨oc38, od38, .func (PySem.W.fnOf "law" "law" (defArgs (topS 38)) (defBody (topS 38)) (defScope (topS 38)) .none kV38 dc38 pm38 an38 cd38 ct38), sl38⟩)
    (c38 : PySem.W.codeIn K cd38 "law" = true)
    (k38 : PySem.W.keepIn K (.ref f38) = true)
    : ∃ fd : FuncData, (∀ (s : Shared) (v : Value), BindsTo s fd ⟨[v], []⟩ [("script", v)]) ∧ ∀ base : Heap, K.In base → base.Ns mainGlobals mg → FnG P w K mg base 6 fa fd ["script"] (spS K F_law) := by
  have e := hfa.symm.trans (PySem.W.mg_of X G a_law)
  have ef : fa = f38 := by cases e; rfl
  rw [ef]
  have F7 := fun_mk (st := topS 7) l7 c7 k7
  have b7 := F7.binds (ps := ["number", "by"]) fun _ _ _ _ _ _ us hl => match us, hl with | [_, _], _ => rfl
  have F8 := fun_mk (st := topS 8) l8 c8 k8
  have b8 := F8.binds (ps := ["one", "two"]) fun _ _ _ _ _ _ us hl => match us, hl with | [_, _], _ => rfl
  have F9 := fun_mk (st := topS 9) l9 c9 k9
  have b9 := F9.binds (ps := ["one", "two"]) fun _ _ _ _ _ _ us hl => match us, hl with | [_, _], _ => rfl
  have F10 := fun_mk (st := topS 10) l10 c10 k10
  have b10 := F10.binds (ps := ["one", "two"]) fun _ _ _ _ _ _ us hl => match us, hl with | [_, _], _ => rfl
  have F11 := fun_mk (st := topS 11) l11 c11 k11
  have b11 := F11.binds (ps := ["told"]) fun _ _ _ _ _ _ us hl => match us, hl with | [_], _ => rfl
  have F18 := fun_mk (st := topS 18) l18 c18 k18
  have b18 := F18.binds (ps := ["link"]) fun _ _ _ _ _ _ us hl => match us, hl with | [_], _ => rfl
  have F19 := fun_mk (st := topS 19) l19 c19 k19
  have b19 := F19.binds (ps := ["chain"]) fun _ _ _ _ _ _ us hl => match us, hl with | [_], _ => rfl
  have F20 := fun_mk (st := topS 20) l20 c20 k20
  have b20 := F20.binds (ps := ["chain"]) fun _ _ _ _ _ _ us hl => match us, hl with | [_], _ => rfl
  have F21 := fun_mk (st := topS 21) l21 c21 k21
  have b21 := F21.binds (ps := ["chain"]) fun _ _ _ _ _ _ us hl => match us, hl with | [_], _ => rfl
  have F22 := fun_mk (st := topS 22) l22 c22 k22
  have b22 := F22.binds (ps := ["chain"]) fun _ _ _ _ _ _ us hl => match us, hl with | [_], _ => rfl
  have F23 := fun_mk (st := topS 23) l23 c23 k23
  have b23 := F23.binds (ps := ["errors"]) fun _ _ _ _ _ _ us hl => match us, hl with | [_], _ => rfl
  have F24 := fun_mk (st := topS 24) l24 c24 k24
  have b24 := F24.binds (ps := ["chain"]) fun _ _ _ _ _ _ us hl => match us, hl with | [_], _ => rfl
  have F25 := fun_mk (st := topS 25) l25 c25 k25
  have b25 := F25.binds (ps := ["errors"]) fun _ _ _ _ _ _ us hl => match us, hl with | [_], _ => rfl
  have F26 := fun_mk (st := topS 26) l26 c26 k26
  have b26 := F26.binds (ps := ["chain"]) fun _ _ _ _ _ _ us hl => match us, hl with | [_], _ => rfl
  have F27 := fun_mk (st := topS 27) l27 c27 k27
  have b27 := F27.binds (ps := ["chain", "low", "high"]) fun _ _ _ _ _ _ us hl => match us, hl with | [_, _, _], _ => rfl
  have F29 := fun_mk (st := topS 29) l29 c29 k29
  have b29 := F29.binds (ps := ["script"]) fun _ _ _ _ _ _ us hl => match us, hl with | [_], _ => rfl
  have F30 := fun_mk (st := topS 30) l30 c30 k30
  have b30 := F30.binds (ps := ["draws", "k", "many"]) fun _ _ _ _ _ _ us hl => match us, hl with | [_, _, _], _ => rfl
  have F31 := fun_mk (st := topS 31) l31 c31 k31
  have b31 := F31.binds (ps := ["n", "d"]) fun _ _ _ _ _ _ us hl => match us, hl with | [_, _], _ => rfl
  have F32 := fun_mk (st := topS 32) l32 c32 k32
  have b32 := F32.binds (ps := ["one", "two"]) fun _ _ _ _ _ _ us hl => match us, hl with | [_, _], _ => rfl
  have F33 := fun_mk (st := topS 33) l33 c33 k33
  have b33 := F33.binds (ps := ["one", "two"]) fun _ _ _ _ _ _ us hl => match us, hl with | [_, _], _ => rfl
  have F34 := fun_mk (st := topS 34) l34 c34 k34
  have b34 := F34.binds (ps := ["one", "two"]) fun _ _ _ _ _ _ us hl => match us, hl with | [_, _], _ => rfl
  have F35 := fun_mk (st := topS 35) l35 c35 k35
  have b35 := F35.binds (ps := ["told"]) fun _ _ _ _ _ _ us hl => match us, hl with | [_], _ => rfl
  have F36 := fun_mk (st := topS 36) l36 c36 k36
  have b36 := F36.binds (ps := ["draws", "k", "most"]) fun _ _ _ _ _ _ us hl => match us, hl with | [_, _, _], _ => rfl
  have F37 := fun_mk (st := topS 37) l37 c37 k37
  have b37 := F37.binds (ps := ["chain"]) fun _ _ _ _ _ _ us hl => match us, hl with | [_], _ => rfl
  have F38 := fun_mk (st := topS 38) l38 c38 k38
  have b38 := F38.binds (ps := ["script"]) fun _ _ _ _ _ _ us hl => match us, hl with | [_], _ => rfl
  let Ad : Nat → Addr := fun i => match i with | 7 => f7 | 8 => f8 | 9 => f9 | 10 => f10 | 11 => f11 | 18 => f18 | 19 => f19 | 20 => f20 | 21 => f21 | 22 => f22 | 23 => f23 | 24 => f24 | 25 => f25 | 26 => f26 | 27 => f27 | 29 => f29 | 30 => f30 | 31 => f31 | 32 => f32 | 33 => f33 | 34 => f34 | 35 => f35 | 36 => f36 | 37 => f37 | 38 => f38 | _ => f38
  let Fd : Nat → FuncData := fun i => match i with | 7 => PySem.W.fnOf "fraction" "fraction" (defArgs (topS 7)) (defBody (topS 7)) (defScope (topS 7)) .none kV7 dc7 pm7 an7 cd7 ct7 | 8 => PySem.W.fnOf "plus" "plus" (defArgs (topS 8)) (defBody (topS 8)) (defScope (topS 8)) .none kV8 dc8 pm8 an8 cd8 ct8 | 9 => PySem.W.fnOf "minus" "minus" (defArgs (topS 9)) (defBody (topS 9)) (defScope (topS 9)) .none kV9 dc9 pm9 an9 cd9 ct9 | 10 => PySem.W.fnOf "times" "times" (defArgs (topS 10)) (defBody (topS 10)) (defScope (topS 10)) .none kV10 dc10 pm10 an10 cd10 ct10 | 11 => PySem.W.fnOf "total" "total" (defArgs (topS 11)) (defBody (topS 11)) (defScope (topS 11)) .none kV11 dc11 pm11 an11 cd11 ct11 | 18 => PySem.W.fnOf "is_link" "is_link" (defArgs (topS 18)) (defBody (topS 18)) (defScope (topS 18)) .none kV18 dc18 pm18 an18 cd18 ct18 | 19 => PySem.W.fnOf "check_chain" "check_chain" (defArgs (topS 19)) (defBody (topS 19)) (defScope (topS 19)) .none kV19 dc19 pm19 an19 cd19 ct19 | 20 => PySem.W.fnOf "ways_of" "ways_of" (defArgs (topS 20)) (defBody (topS 20)) (defScope (topS 20)) .none kV20 dc20 pm20 an20 cd20 ct20 | 21 => PySem.W.fnOf "ways" "ways" (defArgs (topS 21)) (defBody (topS 21)) (defScope (topS 21)) .none kV21 dc21 pm21 an21 cd21 ct21 | 22 => PySem.W.fnOf "ends" "ends" (defArgs (topS 22)) (defBody (topS 22)) (defScope (topS 22)) .none kV22 dc22 pm22 an22 cd22 ct22 | 23 => PySem.W.fnOf "mean_error" "mean_error" (defArgs (topS 23)) (defBody (topS 23)) (defScope (topS 23)) .none kV23 dc23 pm23 an23 cd23 ct23 | 24 => PySem.W.fnOf "mean" "mean" (defArgs (topS 24)) (defBody (topS 24)) (defScope (topS 24)) .none kV24 dc24 pm24 an24 cd24 ct24 | 25 => PySem.W.fnOf "spread_of" "spread_of" (defArgs (topS 25)) (defBody (topS 25)) (defScope (topS 25)) .none kV25 dc25 pm25 an25 cd25 ct25 | 26 => PySem.W.fnOf "spread" "spread" (defArgs (topS 26)) (defBody (topS 26)) (defScope (topS 26)) .none kV26 dc26 pm26 an26 cd26 ct26 | 27 => PySem.W.fnOf "share" "share" (defArgs (topS 27)) (defBody (topS 27)) (defScope (topS 27)) .none kV27 dc27 pm27 an27 cd27 ct27 | 29 => PySem.W.fnOf "_law_draws" "_law_draws" (defArgs (topS 29)) (defBody (topS 29)) (defScope (topS 29)) .none kV29 dc29 pm29 an29 cd29 ct29 | 30 => PySem.W.fnOf "_law_mix" "_law_mix" (defArgs (topS 30)) (defBody (topS 30)) (defScope (topS 30)) .none kV30 dc30 pm30 an30 cd30 ct30 | 31 => PySem.W.fnOf "_law_fraction" "_law_fraction" (defArgs (topS 31)) (defBody (topS 31)) (defScope (topS 31)) .none kV31 dc31 pm31 an31 cd31 ct31 | 32 => PySem.W.fnOf "_law_plus" "_law_plus" (defArgs (topS 32)) (defBody (topS 32)) (defScope (topS 32)) .none kV32 dc32 pm32 an32 cd32 ct32 | 33 => PySem.W.fnOf "_law_times" "_law_times" (defArgs (topS 33)) (defBody (topS 33)) (defScope (topS 33)) .none kV33 dc33 pm33 an33 cd33 ct33 | 34 => PySem.W.fnOf "_law_less" "_law_less" (defArgs (topS 34)) (defBody (topS 34)) (defScope (topS 34)) .none kV34 dc34 pm34 an34 cd34 ct34 | 35 => PySem.W.fnOf "_law_added" "_law_added" (defArgs (topS 35)) (defBody (topS 35)) (defScope (topS 35)) .none kV35 dc35 pm35 an35 cd35 ct35 | 36 => PySem.W.fnOf "_law_chain" "_law_chain" (defArgs (topS 36)) (defBody (topS 36)) (defScope (topS 36)) .none kV36 dc36 pm36 an36 cd36 ct36 | 37 => PySem.W.fnOf "_law_ways" "_law_ways" (defArgs (topS 37)) (defBody (topS 37)) (defScope (topS 37)) .none kV37 dc37 pm37 an37 cd37 ct37 | 38 => PySem.W.fnOf "law" "law" (defArgs (topS 38)) (defBody (topS 38)) (defScope (topS 38)) .none kV38 dc38 pm38 an38 cd38 ct38 | _ => PySem.W.fnOf "law" "law" (defArgs (topS 38)) (defBody (topS 38)) (defScope (topS 38)) .none kV38 dc38 pm38 an38 cd38 ct38
  have T : Txt K mg Ad Fd := {
    d__law_added := ⟨F35, PySem.W.mg_of X G a__law_added, b35⟩
    d__law_chain := ⟨F36, PySem.W.mg_of X G a__law_chain, b36⟩
    d__law_draws := ⟨F29, PySem.W.mg_of X G a__law_draws, b29⟩
    d__law_fraction := ⟨F31, PySem.W.mg_of X G a__law_fraction, b31⟩
    d__law_less := ⟨F34, PySem.W.mg_of X G a__law_less, b34⟩
    d__law_mix := ⟨F30, PySem.W.mg_of X G a__law_mix, b30⟩
    d__law_plus := ⟨F32, PySem.W.mg_of X G a__law_plus, b32⟩
    d__law_times := ⟨F33, PySem.W.mg_of X G a__law_times, b33⟩
    d__law_ways := ⟨F37, PySem.W.mg_of X G a__law_ways, b37⟩
    d_check_chain := ⟨F19, PySem.W.mg_of X G a_check_chain, b19⟩
    d_ends := ⟨F22, PySem.W.mg_of X G a_ends, b22⟩
    d_fraction := ⟨F7, PySem.W.mg_of X G a_fraction, b7⟩
    d_is_link := ⟨F18, PySem.W.mg_of X G a_is_link, b18⟩
    d_law := ⟨F38, PySem.W.mg_of X G a_law, b38⟩
    d_mean := ⟨F24, PySem.W.mg_of X G a_mean, b24⟩
    d_mean_error := ⟨F23, PySem.W.mg_of X G a_mean_error, b23⟩
    d_minus := ⟨F9, PySem.W.mg_of X G a_minus, b9⟩
    d_plus := ⟨F8, PySem.W.mg_of X G a_plus, b8⟩
    d_share := ⟨F27, PySem.W.mg_of X G a_share, b27⟩
    d_spread := ⟨F26, PySem.W.mg_of X G a_spread, b26⟩
    d_spread_of := ⟨F25, PySem.W.mg_of X G a_spread_of, b25⟩
    d_times := ⟨F10, PySem.W.mg_of X G a_times, b10⟩
    d_total := ⟨F11, PySem.W.mg_of X G a_total, b11⟩
    d_ways := ⟨F21, PySem.W.mg_of X G a_ways, b21⟩
    d_ways_of := ⟨F20, PySem.W.mg_of X G a_ways_of, b20⟩
    z_abs := PySem.W.mg_none_of X G z_abs
    z_enumerate := PySem.W.mg_none_of X G z_enumerate
    z_int := PySem.W.mg_none_of X G z_int
    z_len := PySem.W.mg_none_of X G z_len
    z_max := PySem.W.mg_none_of X G z_max
    z_min := PySem.W.mg_none_of X G z_min
    z_range := PySem.W.mg_none_of X G z_range
    z_repr := PySem.W.mg_none_of X G z_repr
    z_set := PySem.W.mg_none_of X G z_set
    z_sorted := PySem.W.mg_none_of X G z_sorted
    z_sum := PySem.W.mg_none_of X G z_sum
    c_MOST_COUNT := ⟨_, PySem.W.mg_of X G n_MOST_COUNT⟩
    c_MOST_ERROR := ⟨_, PySem.W.mg_of X G n_MOST_ERROR⟩
    c_MOST_ERRORS := ⟨_, PySem.W.mg_of X G n_MOST_ERRORS⟩
    c_MOST_LINK := ⟨_, PySem.W.mg_of X G n_MOST_LINK⟩
    c_MOST_LINKS := ⟨_, PySem.W.mg_of X G n_MOST_LINKS⟩
    g_gcd := PySem.W.mg_of X G g_gcd
  }
  exact ⟨_, fun s v => .of_eq rfl, fun base _ _ => ok_law (Ad := Ad) (Fd := Fd) T⟩
end K54
open PySem PySem.W PyProof.Rows
set_option maxHeartbeats 0 in
theorem PySem.Challenge.cw_triedwares_k54_whole_chains_of_sizes_holds : PySem.Challenge.rw_triedwares_k54_whole_chains_of_sizes.Holds := by
  w_on; o_law; k_head; (case hw => w_witness2)
  k_fill
  refine DL.walk_G (l := PySem.Challenge.rw_triedwares_k54_whole_chains_of_sizes) (n := 63) (k := 6) (x := "script") (sp := fun w => DL.spS _ K54.F_law) rfl (by decide) rfl ⟨rfl, by decide, by decide⟩ (fun w h Y => PySem.W.kIn_of Y) ?F (fun w H a ns h1 h2 hO hS => DL.law_end K54.law_true H a ns h1 h2 hO hS)
  case F =>
    intro w mg fa h KX G hmg
    refine' K54.all_mk KX G hmg ?a__law_added ?a__law_chain ?a__law_draws ?a__law_fraction ?a__law_less ?a__law_mix ?a__law_plus ?a__law_times ?a__law_ways ?a_check_chain ?a_ends ?a_fraction ?a_is_link ?a_law ?a_mean ?a_mean_error ?a_minus ?a_plus ?a_share ?a_spread ?a_spread_of ?a_times ?a_total ?a_ways ?a_ways_of ?n_MOST_COUNT ?n_MOST_ERROR ?n_MOST_ERRORS ?n_MOST_LINK ?n_MOST_LINKS ?g_gcd ?z_abs ?z_enumerate ?z_int ?z_len ?z_max ?z_min ?z_range ?z_repr ?z_set ?z_sorted ?z_sum ?l7 ?c7 ?k7 ?l8 ?c8 ?k8 ?l9 ?c9 ?k9 ?l10 ?c10 ?k10 ?l11 ?c11 ?k11 ?l18 ?c18 ?k18 ?l19 ?c19 ?k19 ?l20 ?c20 ?k20 ?l21 ?c21 ?k21 ?l22 ?c22 ?k22 ?l23 ?c23 ?k23 ?l24 ?c24 ?k24 ?l25 ?c25 ?k25 ?l26 ?c26 ?k26 ?l27 ?c27 ?k27 ?l29 ?c29 ?k29 ?l30 ?c30 ?k30 ?l31 ?c31 ?k31 ?l32 ?c32 ?k32 ?l33 ?c33 ?k33 ?l34 ?c34 ?k34 ?l35 ?c35 ?k35 ?l36 ?c36 ?k36 ?l37 ?c37 ?k37 ?l38 ?c38 ?k38
    (case a__law_added => k_is)
    (case a__law_chain => k_is)
    (case a__law_draws => k_is)
    (case a__law_fraction => k_is)
    (case a__law_less => k_is)
    (case a__law_mix => k_is)
    (case a__law_plus => k_is)
    (case a__law_times => k_is)
    (case a__law_ways => k_is)
    (case a_check_chain => k_is)
    (case a_ends => k_is)
    (case a_fraction => k_is)
    (case a_is_link => k_is)
    (case a_law => k_is)
    (case a_mean => k_is)
    (case a_mean_error => k_is)
    (case a_minus => k_is)
    (case a_plus => k_is)
    (case a_share => k_is)
    (case a_spread => k_is)
    (case a_spread_of => k_is)
    (case a_times => k_is)
    (case a_total => k_is)
    (case a_ways => k_is)
    (case a_ways_of => k_is)
    (case n_MOST_COUNT => k_is)
    (case n_MOST_ERROR => k_is)
    (case n_MOST_ERRORS => k_is)
    (case n_MOST_LINK => k_is)
    (case n_MOST_LINKS => k_is)
    (case g_gcd => k_is)
    (case z_abs => k_is)
    (case z_enumerate => k_is)
    (case z_int => k_is)
    (case z_len => k_is)
    (case z_max => k_is)
    (case z_min => k_is)
    (case z_range => k_is)
    (case z_repr => k_is)
    (case z_set => k_is)
    (case z_sorted => k_is)
    (case z_sum => k_is)
    (case l7 => k_is)
    (case c7 => k_is)
    (case k7 => k_is)
    (case l8 => k_is)
    (case c8 => k_is)
    (case k8 => k_is)
    (case l9 => k_is)
    (case c9 => k_is)
    (case k9 => k_is)
    (case l10 => k_is)
    (case c10 => k_is)
    (case k10 => k_is)
    (case l11 => k_is)
    (case c11 => k_is)
    (case k11 => k_is)
    (case l18 => k_is)
    (case c18 => k_is)
    (case k18 => k_is)
    (case l19 => k_is)
    (case c19 => k_is)
    (case k19 => k_is)
    (case l20 => k_is)
    (case c20 => k_is)
    (case k20 => k_is)
    (case l21 => k_is)
    (case c21 => k_is)
    (case k21 => k_is)
    (case l22 => k_is)
    (case c22 => k_is)
    (case k22 => k_is)
    (case l23 => k_is)
    (case c23 => k_is)
    (case k23 => k_is)
    (case l24 => k_is)
    (case c24 => k_is)
    (case k24 => k_is)
    (case l25 => k_is)
    (case c25 => k_is)
    (case k25 => k_is)
    (case l26 => k_is)
    (case c26 => k_is)
    (case k26 => k_is)
    (case l27 => k_is)
    (case c27 => k_is)
    (case k27 => k_is)
    (case l29 => k_is)
    (case c29 => k_is)
    (case k29 => k_is)
    (case l30 => k_is)
    (case c30 => k_is)
    (case k30 => k_is)
    (case l31 => k_is)
    (case c31 => k_is)
    (case k31 => k_is)
    (case l32 => k_is)
    (case c32 => k_is)
    (case k32 => k_is)
    (case l33 => k_is)
    (case c33 => k_is)
    (case k33 => k_is)
    (case l34 => k_is)
    (case c34 => k_is)
    (case k34 => k_is)
    (case l35 => k_is)
    (case c35 => k_is)
    (case k35 => k_is)
    (case l36 => k_is)
    (case c36 => k_is)
    (case k36 => k_is)
    (case l37 => k_is)
    (case c37 => k_is)
    (case k37 => k_is)
    (case l38 => k_is)
    (case c38 => k_is)
    (case k38 => k_is)

