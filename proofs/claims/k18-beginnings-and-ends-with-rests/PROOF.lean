import PyProof.Rows.All
import Wide.All
import OpenK.AllK
import Wide.FinOn
import HandS.ForMost
import HandS.ForExc
import HandS.ExcCtx
import HandS.HotCalls
import HandS.ExcIs
import HandS.ExcValue
import HandS.Style
import HandS.Wide
import HandS.Conv
import PyProof.ListStr
import HandS.Zip
import HandS.IsInst
import HandS.TryOnly
import HandS.Set
import HandS.SetFor
import HandS.SortInts
import HandS.More
import HandS.Dict
import HandS.Strs
import KE.DataMinMax
import KE.SortData
import HandS.SortKw
import HandS.Deep
import HandS.TupLe
import HandS.Replace
import PySem.Challenge.RW_overlaid_k18_beginnings_and_ends_with_re
set_option Elab.async false
set_option linter.all false
set_option maxRecDepth 100000
set_option maxHeartbeats 4000000
set_option autoImplicit false
namespace MV
open PySem L2
inductive D where
  | non
  | bl (b : Bool)
  | int (i : Int)
  | str (x : Str)
  | lst (xs : List D)
  | tup (xs : List D)
  | dic (kvs : List (Key × D))
  | dit (kvs : List (List Key × D))
  | exc (c : Str)
  deriving Inhabited
def D.toV : D → Option V
  | .non => some .non
  | .bl b => some (.bl b)
  | .int i => some (.int i)
  | .str x => some (.str x)
  | _ => none
def D.sc (d : D) : Bool := d.toV.isSome
def D.flat : D → Bool
  | .lst xs => xs.all D.sc
  | .tup xs => xs.all D.sc
  | d => d.sc
def Ex (H H' : Hp) : Prop := ∀ a o, H a = some o → H' a = some o
theorem Ex.refl (H : Hp) : Ex H H := fun _ _ h => h
theorem Ex.trans {H H1 H2 : Hp} (a : Ex H H1) (b : Ex H1 H2) : Ex H H2 := fun x o h => b x o (a x o h)
theorem Ex.new {H : Hp} {p : Addr} {o : HO} (h : H p = none) : Ex H (upd H p o) := fun a u e => by
  rw [upd_ne (ne_of_none e h)]; exact e
theorem Ex.dom {H H' : Hp} (e : Ex H H') {a : Addr} (h : H a ≠ none) : H' a ≠ none := by
  cases q : H a with
  | none => exact absurd q h
  | some o => rw [e a o q]; exact fun z => by cases z
theorem Ex.back {H H' : Hp} (e : Ex H H') {a : Addr} (h : H' a = none) : H a = none := by
  cases q : H a with
  | none => rfl
  | some o => rw [e a o q] at h; cases h
def nw (H H' : Hp) : Hp := fun a => match H a with | none => H' a | some _ => none
def grow (G H H' : Hp) : Hp := fun a => match H a with | none => H' a | some _ => G a
def rs (G B : Hp) : Hp := fun a => match B a with | none => G a | some _ => none
def rm (G : Hp) (w : List Addr) : Hp := fun a => if a ∈ w then none else G a
theorem grow_none {G H H' : Hp} {a : Addr} (h : H a = none) : grow G H H' a = H' a := by unfold grow; rw [h]
theorem grow_some {G H H' : Hp} {a : Addr} {o : HO} (h : H a = some o) : grow G H H' a = G a := by unfold grow; rw [h]
theorem rs_none {G B : Hp} {a : Addr} (h : B a = none) : rs G B a = G a := by unfold rs; rw [h]
theorem rs_some {G B : Hp} {a : Addr} {o : HO} (h : B a = some o) : rs G B a = none := by unfold rs; rw [h]
theorem nw_none {H H' : Hp} {a : Addr} (h : H a = none) : nw H H' a = H' a := by unfold nw; rw [h]
theorem nw_some {H H' : Hp} {a : Addr} {o : HO} (h : H a = some o) : nw H H' a = none := by unfold nw; rw [h]
theorem Ex.grow {G H H' : Hp} (e : Ex G H) (x : Ex H H') : Ex G (grow G H H') := fun a o h => by
  rw [grow_some (e a o h)]; exact h
theorem grow_sub {G H H' : Hp} (e : Ex G H) (x : Ex H H') : Ex (grow G H H') H' := fun a o h => by
  cases q : H a with
  | none => rw [grow_none q] at h; exact h
  | some u => rw [grow_some q] at h; exact x a o (e a o h)
theorem rs_sub (G B : Hp) : Ex (rs G B) G := fun a o h => by
  cases q : B a with
  | none => rw [rs_none q] at h; exact h
  | some u => rw [rs_some q] at h; cases h
theorem rs_mono {G G' B : Hp} (e : Ex G G') : Ex (rs G B) (rs G' B) := fun a o h => by
  cases q : B a with
  | none => rw [rs_none q] at h ⊢; exact e a o h
  | some u => rw [rs_some q] at h; cases h
theorem rm_sub (G : Hp) (w : List Addr) : Ex (rm G w) G := fun a o h => by
  unfold rm at h; split at h
  · cases h
  · exact h
def SqLx (K : PySem.W.Frag) : Bool → Hp → Addr → List V → Prop
  | true, G, a, xs => G a = some (.lst xs)
  | false, G, a, xs => SqL K G a xs
def SqTx (K : PySem.W.Frag) : Bool → Hp → Addr → List V → Prop
  | true, G, a, xs => G a = some (.tup xs)
  | false, G, a, xs => SqT K G a xs
def DqK : Bool → Hp → Addr → List (Key × V) → Prop
  | true, G, a, kvs => G a = some (.dK kvs)
  | false, G, a, kvs => ∃ o, G a = some (.frz o (.dK kvs))
def cvK (K : PySem.W.Frag) (c : Str) : Value := match PySem.W.nsIn K mainGlobals c with
  | some (some v) => v
  | _ => .none
def ExH (cls : Value) (a : Addr) : HO := .ext fun h => ∃ (oe : Obj) (vs : Array Value), h.get? a = some oe ∧ oe.cls = cls ∧ oe.dict = none ∧ oe.data = .fields vs
mutual
inductive Rp (K : PySem.W.Frag) (x : Bool) (G : Hp) : V → D → Prop
  | sc {v : V} {d : D} : d.toV = some v → Rp K x G v d
  | lst {a : Addr} {xs : List V} {ds : List D} : SqLx K x G a xs → RpL K x G xs ds → Rp K x G (.ref a) (.lst ds)
  | tup {a : Addr} {xs : List V} {ds : List D} : SqTx K x G a xs → RpL K x G xs ds → Rp K x G (.ref a) (.tup ds)
  | dic {a : Addr} {ks : List Key} {vs : List V} {ds : List D} : DqK x G a (ks.zip vs) → ks.length = vs.length → RpL K x G vs ds → Rp K x G (.ref a) (.dic (ks.zip ds))
  | dit {a : Addr} {ks : List (List Key)} {vs : List V} {ds : List D} : G a = some (.dT (ks.zip vs)) → ks.length = vs.length → RpL K x G vs ds → Rp K x G (.ref a) (.dit (ks.zip ds))
  | exc {a : Addr} {c : Str} : G a = some (ExH (cvK K c) a) → Rp K x G (.ref a) (.exc c)
inductive RpL (K : PySem.W.Frag) (x : Bool) (G : Hp) : List V → List D → Prop
  | nil : RpL K x G [] []
  | cons {v : V} {vs : List V} {d : D} {ds : List D} : Rp K x G v d → RpL K x G vs ds → RpL K x G (v :: vs) (d :: ds)
end
theorem ex_sql {K : PySem.W.Frag} {H H' : Hp} {a : Addr} {xs : List V} (e : Ex H H') (h : SqL K H a xs) : SqL K H' a xs := by
  rcases h with (h | ⟨o, h⟩) | h
  · exact .inl (.inl (e _ _ h))
  · exact .inl (.inr ⟨o, e _ _ h⟩)
  · exact .inr h
theorem ex_sqt {K : PySem.W.Frag} {H H' : Hp} {a : Addr} {xs : List V} (e : Ex H H') (h : SqT K H a xs) : SqT K H' a xs := by
  rcases h with (h | ⟨o, h⟩) | h
  · exact .inl (.inl (e _ _ h))
  · exact .inl (.inr ⟨o, e _ _ h⟩)
  · exact .inr h
theorem SqLx.any {K : PySem.W.Frag} {H : Hp} {a : Addr} {xs : List V} {x : Bool} (h : SqLx K x H a xs) : SqL K H a xs := by
  cases x with
  | true => exact .inl (.inl h)
  | false => exact h
theorem SqTx.any {K : PySem.W.Frag} {H : Hp} {a : Addr} {xs : List V} {x : Bool} (h : SqTx K x H a xs) : SqT K H a xs := by
  cases x with
  | true => exact .inl (.inl h)
  | false => exact h
theorem ex_sqlx {K : PySem.W.Frag} {x y : Bool} {H H' : Hp} {a : Addr} {xs : List V} (e : Ex H H') (l : y = true → x = true) (h : SqLx K x H a xs) : SqLx K y H' a xs := by
  cases y with
  | true => rw [l rfl] at h; exact e _ _ h
  | false => exact ex_sql e h.any
theorem ex_sqtx {K : PySem.W.Frag} {x y : Bool} {H H' : Hp} {a : Addr} {xs : List V} (e : Ex H H') (l : y = true → x = true) (h : SqTx K x H a xs) : SqTx K y H' a xs := by
  cases y with
  | true => rw [l rfl] at h; exact e _ _ h
  | false => exact ex_sqt e h.any
theorem ex_dqk {x : Bool} {H H' : Hp} {a : Addr} {kvs : List (Key × V)} (e : Ex H H') (h : DqK x H a kvs) : DqK x H' a kvs := by
  cases x with
  | true => exact e _ _ h
  | false => obtain ⟨o, h⟩ := h; exact ⟨o, e _ _ h⟩
mutual
theorem Rp.to {K : PySem.W.Frag} {x : Bool} {G G' : Hp} (e : Ex G G') : ∀ {v : V} {d : D}, Rp K x G v d → Rp K x G' v d
  | _, _, .sc h => .sc h
  | _, _, .lst h r => .lst (ex_sqlx e id h) (RpL.to e r)
  | _, _, .tup h r => .tup (ex_sqtx e id h) (RpL.to e r)
  | _, _, .dic h n r => .dic (ex_dqk e h) n (RpL.to e r)
  | _, _, .dit h n r => .dit (e _ _ h) n (RpL.to e r)
  | _, _, .exc h => .exc (e _ _ h)
theorem RpL.to {K : PySem.W.Frag} {x : Bool} {G G' : Hp} (e : Ex G G') : ∀ {vs : List V} {ds : List D}, RpL K x G vs ds → RpL K x G' vs ds
  | _, _, .nil => .nil
  | _, _, .cons h r => .cons (Rp.to e h) (RpL.to e r)
end
section
variable {K : PySem.W.Frag} {x : Bool} {G : Hp}
theorem Rp.mono {G' : Hp} (e : Ex G G') {v : V} {d : D} (h : Rp K x G v d) : Rp K x G' v d := h.to e
theorem RpL.mono {G' : Hp} (e : Ex G G') {v : List V} {d : List D} (h : RpL K x G v d) : RpL K x G' v d := h.to e
theorem RpL.length : ∀ {vs : List V} {ds : List D}, RpL K x G vs ds → vs.length = ds.length
  | _, _, .nil => rfl
  | _, _, .cons _ r => by rw [List.length_cons, List.length_cons, r.length]
theorem RpL.get : ∀ {vs : List V} {ds : List D} {i : Nat} {d : D}, RpL K x G vs ds → ds[i]? = some d → ∃ v, vs[i]? = some v ∧ Rp K x G v d
  | _, _, _, _, .nil, h => by simp at h
  | _, _, 0, _, .cons h _, e => by simp at e; subst e; exact ⟨_, rfl, h⟩
  | _, _, i + 1, d, .cons _ r, e => by
    obtain ⟨v, h1, h2⟩ := RpL.get (i := i) (d := d) r (by simpa using e)
    exact ⟨v, by simpa using h1, h2⟩
theorem RpL.getV : ∀ {vs : List V} {ds : List D} {i : Nat} {v : V}, RpL K x G vs ds → vs[i]? = some v → ∃ d, ds[i]? = some d ∧ Rp K x G v d
  | _, _, _, _, .nil, h => by simp at h
  | _, _, 0, _, .cons h _, e => by simp at e; subst e; exact ⟨_, rfl, h⟩
  | _, _, i + 1, d, .cons _ r, e => by
    obtain ⟨v, h1, h2⟩ := RpL.getV (i := i) (v := d) r (by simpa using e)
    exact ⟨v, by simpa using h1, h2⟩
theorem RpL.append : ∀ {vs ws : List V} {ds es : List D}, RpL K x G vs ds → RpL K x G ws es → RpL K x G (vs ++ ws) (ds ++ es)
  | _, _, _, _, .nil, h => h
  | _, _, _, _, .cons h r, h2 => .cons h (RpL.append r h2)
theorem RpL.take : ∀ {vs : List V} {ds : List D} (n : Nat), RpL K x G vs ds → RpL K x G (vs.take n) (ds.take n)
  | _, _, 0, _ => .nil
  | _, _, _ + 1, .nil => .nil
  | _, _, n + 1, .cons h r => .cons h (RpL.take n r)
theorem RpL.drop : ∀ {vs : List V} {ds : List D} (n : Nat), RpL K x G vs ds → RpL K x G (vs.drop n) (ds.drop n)
  | _, _, 0, r => r
  | _, _, _ + 1, .nil => .nil
  | _, _, n + 1, .cons _ r => RpL.drop n r
theorem RpL.set : ∀ {vs : List V} {ds : List D} {v : V} {d : D} (i : Nat), RpL K x G vs ds → Rp K x G v d → RpL K x G (vs.set i v) (ds.set i d)
  | _, _, _, _, _, .nil, _ => .nil
  | _, _, _, _, 0, .cons _ t, r => .cons r t
  | _, _, _, _, i + 1, .cons q t, r => .cons q (RpL.set i t r)
theorem Rp.sc_any {v : V} {d : D} (h : Rp K x G v d) (hs : d.sc = true) (y : Bool) (G' : Hp) : Rp K y G' v d := by
  cases h with
  | sc h => exact .sc h
  | lst _ _ => cases hs
  | tup _ _ => cases hs
  | dic _ _ _ => cases hs
  | dit _ _ _ => cases hs
  | exc _ => cases hs
theorem Rp.toV {v : V} {d : D} (h : Rp K x G v d) (hs : d.sc = true) : d.toV = some v := by
  cases h with
  | sc h => exact h
  | lst _ _ => cases hs
  | tup _ _ => cases hs
  | dic _ _ _ => cases hs
  | dit _ _ _ => cases hs
  | exc _ => cases hs
theorem RpL.sc_any : ∀ {vs : List V} {ds : List D}, RpL K x G vs ds → ds.all D.sc = true → ∀ (y : Bool) (G' : Hp), RpL K y G' vs ds
  | _, _, .nil, _, _, _ => .nil
  | _, _, .cons h r, hs, y, G' => by
    rw [List.all_cons, Bool.and_eq_true] at hs
    exact .cons (h.sc_any hs.1 y G') (RpL.sc_any r hs.2 y G')
theorem Rp.int_inv {v : V} {i : Int} (h : Rp K x G v (.int i)) : v = .int i := by
  have := h.toV rfl; exact (Option.some.inj this).symm
theorem Rp.bl_inv {v : V} {b : Bool} (h : Rp K x G v (.bl b)) : v = .bl b := by
  have := h.toV rfl; exact (Option.some.inj this).symm
theorem Rp.str_inv {v : V} {z : Str} (h : Rp K x G v (.str z)) : v = .str z := by
  have := h.toV rfl; exact (Option.some.inj this).symm
theorem Rp.non_inv {v : V} (h : Rp K x G v .non) : v = .non := by
  have := h.toV rfl; exact (Option.some.inj this).symm
theorem Rp.lst_inv {v : V} {ds : List D} (h : Rp K x G v (.lst ds)) : ∃ a xs, v = .ref a ∧ SqLx K x G a xs ∧ RpL K x G xs ds := by
  cases h with
  | sc h => cases h
  | lst h r => exact ⟨_, _, rfl, h, r⟩
theorem Rp.tup_inv {v : V} {ds : List D} (h : Rp K x G v (.tup ds)) : ∃ a xs, v = .ref a ∧ SqTx K x G a xs ∧ RpL K x G xs ds := by
  cases h with
  | sc h => cases h
  | tup h r => exact ⟨_, _, rfl, h, r⟩
theorem Rp.int (i : Int) : Rp K x G (.int i) (.int i) := .sc rfl
theorem Rp.bl (b : Bool) : Rp K x G (.bl b) (.bl b) := .sc rfl
theorem Rp.str (z : Str) : Rp K x G (.str z) (.str z) := .sc rfl
theorem Rp.non : Rp K x G .non .non := .sc rfl
end
mutual
inductive Own (K : PySem.W.Frag) (Hn H : Hp) : List Addr → V → D → Prop
  | leaf {v : V} {d : D} : Rp K true Hn v d → Own K Hn H [] v d
  | lst {p : Addr} {F : List Addr} {xs : List V} {ds : List D} : H p = some (.lst xs) → OwnL K Hn H F xs ds → Own K Hn H (p :: F) (.ref p) (.lst ds)
  | tup {p : Addr} {F : List Addr} {xs : List V} {ds : List D} : H p = some (.tup xs) → OwnL K Hn H F xs ds → Own K Hn H (p :: F) (.ref p) (.tup ds)
  | dic {p : Addr} {F : List Addr} {ks : List Key} {vs : List V} {ds : List D} : H p = some (.dK (ks.zip vs)) → ks.length = vs.length → OwnL K Hn H F vs ds → Own K Hn H (p :: F) (.ref p) (.dic (ks.zip ds))
  | dit {p : Addr} {F : List Addr} {ks : List (List Key)} {vs : List V} {ds : List D} : H p = some (.dT (ks.zip vs)) → ks.length = vs.length → OwnL K Hn H F vs ds → Own K Hn H (p :: F) (.ref p) (.dit (ks.zip ds))
inductive OwnL (K : PySem.W.Frag) (Hn H : Hp) : List Addr → List V → List D → Prop
  | nil : OwnL K Hn H [] [] []
  | cons {F F' : List Addr} {v : V} {vs : List V} {d : D} {ds : List D} : Own K Hn H F v d → OwnL K Hn H F' vs ds → OwnL K Hn H (F ++ F') (v :: vs) (d :: ds)
end
section
variable {K : PySem.W.Frag} {Hn Hn' H H' : Hp}
mutual
theorem Own.keep (en : Ex Hn Hn') : ∀ {F : List Addr} {v : V} {d : D}, Own K Hn H F v d → (∀ a ∈ F, ∀ o, H a = some o → H' a = some o) → Own K Hn' H' F v d
  | _, _, _, .leaf h, _ => .leaf (h.mono en)
  | _, _, _, .lst h r, e => .lst (e _ List.mem_cons_self _ h) (OwnL.keep en r fun a m => e a (List.mem_cons_of_mem _ m))
  | _, _, _, .tup h r, e => .tup (e _ List.mem_cons_self _ h) (OwnL.keep en r fun a m => e a (List.mem_cons_of_mem _ m))
  | _, _, _, .dic h l r, e => .dic (e _ List.mem_cons_self _ h) l (OwnL.keep en r fun a m => e a (List.mem_cons_of_mem _ m))
  | _, _, _, .dit h l r, e => .dit (e _ List.mem_cons_self _ h) l (OwnL.keep en r fun a m => e a (List.mem_cons_of_mem _ m))
theorem OwnL.keep (en : Ex Hn Hn') : ∀ {F : List Addr} {vs : List V} {ds : List D}, OwnL K Hn H F vs ds → (∀ a ∈ F, ∀ o, H a = some o → H' a = some o) → OwnL K Hn' H' F vs ds
  | _, _, _, .nil, _ => .nil
  | _, _, _, .cons h r, e => .cons (Own.keep en h fun a m => e a (List.mem_append_left _ m)) (OwnL.keep en r fun a m => e a (List.mem_append_right _ m))
end
theorem Own.mono (en : Ex Hn Hn') (e : Ex H H') {F : List Addr} {v : V} {d : D} (h : Own K Hn H F v d) : Own K Hn' H' F v d := h.keep en fun a _ o q => e a o q
mutual
theorem Own.dom : ∀ {F : List Addr} {v : V} {d : D}, Own K Hn H F v d → ∀ a ∈ F, H a ≠ none
  | _, _, _, .leaf _, a, m => by cases m
  | _, _, _, .lst h r, a, m => by
    rcases List.mem_cons.mp m with rfl | m
    · rw [h]; exact fun z => by cases z
    · exact OwnL.dom r a m
  | _, _, _, .tup h r, a, m => by
    rcases List.mem_cons.mp m with rfl | m
    · rw [h]; exact fun z => by cases z
    · exact OwnL.dom r a m
  | _, _, _, .dic h l r, a, m => by
    rcases List.mem_cons.mp m with rfl | m
    · rw [h]; exact fun z => by cases z
    · exact OwnL.dom r a m
  | _, _, _, .dit h l r, a, m => by
    rcases List.mem_cons.mp m with rfl | m
    · rw [h]; exact fun z => by cases z
    · exact OwnL.dom r a m
theorem OwnL.dom : ∀ {F : List Addr} {vs : List V} {ds : List D}, OwnL K Hn H F vs ds → ∀ a ∈ F, H a ≠ none
  | _, _, _, .nil, a, m => by cases m
  | _, _, _, .cons h r, a, m => by
    rcases List.mem_append.mp m with m | m
    · exact Own.dom h a m
    · exact OwnL.dom r a m
end
mutual
/-- what is owned is read, in any heap that holds its objects -/
theorem Own.rp {G : Hp} (en : Ex Hn G) : ∀ {F : List Addr} {v : V} {d : D}, Own K Hn H F v d → (∀ a ∈ F, ∀ o, H a = some o → G a = some o) → Rp K true G v d
  | _, _, _, .leaf h, _ => h.mono en
  | _, _, _, .lst h r, e => .lst (e _ List.mem_cons_self _ h) (OwnL.rp en r fun a m => e a (List.mem_cons_of_mem _ m))
  | _, _, _, .tup h r, e => .tup (e _ List.mem_cons_self _ h) (OwnL.rp en r fun a m => e a (List.mem_cons_of_mem _ m))
  | _, _, _, .dic h l r, e => .dic (e _ List.mem_cons_self _ h) l (OwnL.rp en r fun a m => e a (List.mem_cons_of_mem _ m))
  | _, _, _, .dit h l r, e => .dit (e _ List.mem_cons_self _ h) l (OwnL.rp en r fun a m => e a (List.mem_cons_of_mem _ m))
theorem OwnL.rp {G : Hp} (en : Ex Hn G) : ∀ {F : List Addr} {vs : List V} {ds : List D}, OwnL K Hn H F vs ds → (∀ a ∈ F, ∀ o, H a = some o → G a = some o) → RpL K true G vs ds
  | _, _, _, .nil, _ => .nil
  | _, _, _, .cons h r, e => .cons (Own.rp en h fun a m => e a (List.mem_append_left _ m)) (OwnL.rp en r fun a m => e a (List.mem_append_right _ m))
end
theorem ownL_of : ∀ {vs : List V} {ds : List D}, RpL K true Hn vs ds → OwnL K Hn H [] vs ds
  | _, _, .nil => .nil
  | _, _, .cons h r => OwnL.cons (F := []) (.leaf h) (ownL_of r)
end
end MV
namespace MV
open PySem L2
abbrev PEnv := List (Option D)
inductive Res (α : Type) where
  | ok (a : α) (e : PEnv)
  | ex (c : Str) (e : PEnv)
  | stuck
abbrev M (α : Type) := PEnv → Res α
def bnd {α β : Type} (m : M α) (k : α → M β) : M β := fun e => match m e with
  | .ok a e' => k a e'
  | .ex c e' => .ex c e'
  | .stuck => .stuck
def ret {α : Type} (a : α) : M α := fun e => .ok a e
def lift {α : Type} (o : Option α) : M α := fun e => match o with
  | some a => .ok a e
  | none => .stuck
def fail {α : Type} : M α := fun _ => .stuck
inductive FR where
  | ok (d : D) (io : D)
  | ex (c : Str) (io : D)
  | stuck
inductive Fl where
  | nx
  | rt (d : D)
  | bk
  | ct
def envOf (n : Nat) (ds : List D) : PEnv := ds.map some ++ List.replicate (n - ds.length) none
def ioOf (e : PEnv) : D := match e with
  | some d :: _ => d
  | _ => .non
def runF (n : Nat) (g : M Fl) : List D → FR := fun ds => match g (envOf n ds) with
  | .ok (.rt d) e => .ok d (ioOf e)
  | .ok .nx e => .ok .non (ioOf e)
  | .ex c e => .ex c (ioOf e)
  | _ => .stuck
inductive Kd where
  | S | N | M | W | Q | P
  deriving DecidableEq
structure Cf where
  K : PySem.W.Frag
  kd : Nat → Kd
  cv : Str → Value
structure Rs where
  H0 : Hp
  io : Option Addr
def emp : Hp := fun _ => none
def SlotR (K : PySem.W.Frag) (R : Rs) (Hs H : Hp) (F : List Addr) : Kd → V → D → Prop
  | .Q, v, d => Rp K false Hs v d
  | .S, v, d => Rp K true Hs v d
  | .P, v, d => Own K emp H F v d
  | .N, v, d => Rp K true (rs Hs R.H0) v d
  | .M, v, d => Own K (rs Hs R.H0) H F v d ∧ (F = [] → d.sc = true) ∧ F.length ≤ 1
  | .W, v, d => ∃ p xs ds, v = .ref p ∧ d = .lst ds ∧ F = [p] ∧ H p = some (.lst xs) ∧ ds.all D.sc = true ∧ RpL K true emp xs ds
structure Rel (cf : Cf) (R : Rs) (Hs : Hp) (env : PEnv) (σ : L2.St) (H : Hp) (F : Nat → List Addr) (wf : List Addr) : Prop where
  len : env.length = σ.length
  exs : Ex Hs H
  ex0 : ∀ a o, R.H0 a = some o → R.io ≠ some a → Hs a = some o
  dom0 : ∀ a, R.H0 a ≠ none → H a ≠ none
  slot : ∀ i d, env[i]? = some (some d) → ∃ v, σ[i]? = some (some v) ∧ SlotR cf.K R Hs H (F i) (cf.kd i) v d
  nod : ∀ i, (F i).Nodup
  dis : ∀ i j, i ≠ j → ∀ a, a ∈ F i → a ∉ F j
  fdom : ∀ i a, a ∈ F i → H a ≠ none
  uns : ∀ i a, a ∈ F i → Hs a = none
  new : ∀ i a, a ∈ F i → R.io = some a ∨ R.H0 a = none
  volw : ∀ i, cf.kd i = .W → ∀ a, a ∈ F i → a ∈ wf
  volb : ∀ i, cf.kd i ≠ .W → ∀ a, a ∈ F i → a ∉ wf
  wdom : ∀ a, a ∈ wf → H a ≠ none ∧ Hs a = none
  ior : ∀ p, R.io = some p → σ[0]? = some (some (.ref p)) ∧ F 0 = [p] ∧ cf.kd 0 = .W ∧ ∃ d, env[0]? = some (some d)
inductive Cls where
  | V | N | S | L | B
def rg (c : Cls) (H0 Hs Hst H : Hp) (wf : List Addr) : Hp := match c with
  | .V => rs Hs Hst
  | .N => rs Hs H0
  | .S => Hs
  | .L => rs (rm H wf) H0
  | .B => rm H wf
structure Stp (cf : Cf) (wf : List Addr) (env : PEnv) (Hs H : Hp) (env' : PEnv) (Hs' H' : Hp) : Prop where
  dom : ∀ a, H a ≠ none → H' a ≠ none
  ex : Ex Hs Hs'
  keep : ∀ a o, a ∉ wf → H a = some o → H' a = some o
  same : ∀ a, H a ≠ none → Hs' a = Hs a
  kp : ∀ i, cf.kd i ≠ .W → env'[i]? = env[i]?
section
variable {cf : Cf} {wf : List Addr} {env env1 env2 : PEnv} {Hs H Hs1 H1 Hs2 H2 H' : Hp}
theorem Stp.refl : Stp cf wf env Hs H env Hs H := ⟨fun _ h => h, Ex.refl _, fun _ _ _ h => h, fun _ _ => rfl, fun _ _ => rfl⟩
theorem Stp.trans (a : Stp cf wf env Hs H env1 Hs1 H1) (b : Stp cf wf env1 Hs1 H1 env2 Hs2 H2) : Stp cf wf env Hs H env2 Hs2 H2 :=
  ⟨fun x h => b.dom x (a.dom x h), a.ex.trans b.ex, fun x o hw h => b.keep x o hw (a.keep x o hw h), fun x h => (b.same x (a.dom x h)).trans (a.same x h), fun i h => (b.kp i h).trans (a.kp i h)⟩
theorem Stp.grow (e : Ex Hs H) (x : Ex H H') : Stp cf wf env Hs H env (grow Hs H H') H' :=
  ⟨fun a h => x.dom h, Ex.grow e x, fun a o _ h => x a o h, fun a h => by
    cases q : H a with
    | none => exact absurd q h
    | some o => exact grow_some q, fun _ _ => rfl⟩
end
theorem rg_step {c : Cls} {H0 Hs Hst H Hs' H' : Hp} {wf : List Addr} {cf : Cf} {env env' : PEnv} (s : Stp cf wf env Hs H env' Hs' H') : Ex (rg c H0 Hs Hst H wf) (rg c H0 Hs' Hst H' wf) := by
  have hb : Ex (rm H wf) (rm H' wf) := fun a o h => by
    unfold rm at h ⊢
    split at h
    · cases h
    · rename_i hw; rw [if_neg hw]; exact s.keep a o hw h
  cases c with
  | V => exact rs_mono s.ex
  | N => exact rs_mono s.ex
  | S => exact s.ex
  | L => exact rs_mono hb
  | B => exact hb
theorem rg_start {c : Cls} {H0 Hs Hst Hst' H : Hp} {wf : List Addr} (d : ∀ a, Hst a ≠ none → Hst' a ≠ none) : Ex (rg c H0 Hs Hst' H wf) (rg c H0 Hs Hst H wf) := by
  cases c with
  | V =>
    intro a o h
    have h : rs Hs Hst' a = some o := h
    show rs Hs Hst a = some o
    cases q : Hst a with
    | none =>
      rw [rs_none q]
      exact rs_sub _ _ a o h
    | some u =>
      have : Hst' a ≠ none := d a (by rw [q]; exact fun z => by cases z)
      cases q' : Hst' a with
      | none => exact absurd q' this
      | some u' => rw [rs_some q'] at h; cases h
  | N => exact Ex.refl _
  | S => exact Ex.refl _
  | L => exact Ex.refl _
  | B => exact Ex.refl _
theorem rg_sub {c : Cls} {H0 Hs Hst H : Hp} {wf : List Addr} (e : Ex Hs H) : Ex (rg c H0 Hs Hst H wf) H := by
  cases c with
  | V => exact (rs_sub _ _).trans e
  | N => exact (rs_sub _ _).trans e
  | S => exact e
  | L => exact (rs_sub _ _).trans (rm_sub _ _)
  | B => exact rm_sub _ _
theorem rg_grow {c : Cls} {H0 Hs Hst H H' : Hp} {wf : List Addr} (d0 : ∀ a, H0 a ≠ none → H a ≠ none) (ds : ∀ a, Hst a ≠ none → H a ≠ none) (dw : ∀ a, a ∈ wf → H a ≠ none) (es : Ex Hs H) (x : Ex H H') :
    Ex (grow (rg c H0 Hs Hst H wf) H H') (rg c H0 (grow Hs H H') Hst H' wf) := by
  intro a o h
  cases q : H a with
  | none =>
    rw [grow_none q] at h
    have h0 : H0 a = none := by
      cases z : H0 a with
      | none => rfl
      | some u => exact absurd q (d0 a (by rw [z]; exact fun y => by cases y))
    have hs : Hst a = none := by
      cases z : Hst a with
      | none => rfl
      | some u => exact absurd q (ds a (by rw [z]; exact fun y => by cases y))
    have hw : a ∉ wf := fun m => dw a m q
    cases c with
    | V => show rs (grow Hs H H') Hst a = some o; rw [rs_none hs, grow_none q]; exact h
    | N => show rs (grow Hs H H') H0 a = some o; rw [rs_none h0, grow_none q]; exact h
    | S => show grow Hs H H' a = some o; rw [grow_none q]; exact h
    | L => show rs (rm H' wf) H0 a = some o; rw [rs_none h0]; unfold rm; rw [if_neg hw]; exact h
    | B => show rm H' wf a = some o; unfold rm; rw [if_neg hw]; exact h
  | some u =>
    rw [grow_some q] at h
    exact rg_step (cf := ⟨default, fun _ => .S, fun _ => .none⟩) (env := []) (Stp.grow es x) a o h
inductive Cls.Le : Cls → Cls → Prop
  | rfl (c) : Cls.Le c c
  | vn : Cls.Le .V .N
  | vs : Cls.Le .V .S
  | vl : Cls.Le .V .L
  | vb : Cls.Le .V .B
  | ns : Cls.Le .N .S
  | nl : Cls.Le .N .L
  | nb : Cls.Le .N .B
  | sb : Cls.Le .S .B
  | lb : Cls.Le .L .B
theorem rg_le {c c' : Cls} (l : Cls.Le c c') {H0 Hs Hst H : Hp} {wf : List Addr} (es : Ex Hs H) (d0 : ∀ a, H0 a ≠ none → Hst a ≠ none) (w : ∀ a, a ∈ wf → Hs a = none) : Ex (rg c H0 Hs Hst H wf) (rg c' H0 Hs Hst H wf) := by
  have sb : Ex Hs (rm H wf) := fun a o h => by
    unfold rm
    rw [if_neg (fun m => by rw [w a m] at h; cases h)]
    exact es a o h
  have vn : Ex (rs Hs Hst) (rs Hs H0) := fun a o h => by
    cases q : H0 a with
    | none => rw [rs_none q]; exact rs_sub _ _ a o h
    | some u =>
      have : Hst a ≠ none := d0 a (by rw [q]; exact fun y => by cases y)
      cases q' : Hst a with
      | none => exact absurd q' this
      | some u' => rw [rs_some q'] at h; cases h
  have nl : Ex (rs Hs H0) (rs (rm H wf) H0) := rs_mono sb
  cases l with
  | rfl => exact Ex.refl _
  | vn => exact vn
  | vs => exact vn.trans (rs_sub _ _)
  | vl => exact vn.trans nl
  | vb => exact (vn.trans nl).trans (rs_sub _ _)
  | ns => exact rs_sub _ _
  | nl => exact nl
  | nb => exact nl.trans (rs_sub _ _)
  | sb => exact sb
  | lb => exact rs_sub _ _
section
variable {cf : Cf} {R : Rs} {Hs H H' : Hp} {env : PEnv} {σ : L2.St} {F : Nat → List Addr} {wf : List Addr}
theorem Rel.grow (r : Rel cf R Hs env σ H F wf) (x : Ex H H') : Rel cf R (grow Hs H H') env σ H' F wf where
  len := r.len
  exs := grow_sub r.exs x
  ex0 := fun a o h n => (Ex.grow r.exs x) a o (r.ex0 a o h n)
  dom0 := fun a h => x.dom (r.dom0 a h)
  slot := fun i d h => by
    obtain ⟨v, h1, h2⟩ := r.slot i d h
    refine ⟨v, h1, ?_⟩
    cases q : cf.kd i with
    | S => rw [q] at h2; exact Rp.mono (Ex.grow r.exs x) h2
    | Q => rw [q] at h2; exact Rp.mono (Ex.grow r.exs x) h2
    | P => rw [q] at h2; exact Own.mono (Ex.refl _) x h2
    | N => rw [q] at h2; exact Rp.mono (rs_mono (Ex.grow r.exs x)) h2
    | M => rw [q] at h2; exact ⟨Own.mono (rs_mono (Ex.grow r.exs x)) x h2.1, h2.2⟩
    | W =>
      rw [q] at h2
      obtain ⟨p, xs, ds, e1, e2, e3, e4, e5⟩ := h2
      exact ⟨p, xs, ds, e1, e2, e3, x _ _ e4, e5⟩
  nod := r.nod
  dis := r.dis
  fdom := fun i a h => x.dom (r.fdom i a h)
  uns := fun i a h => by
    have hd := r.fdom i a h
    cases q : H a with
    | none => exact absurd q hd
    | some o => rw [grow_some q]; exact r.uns i a h
  new := r.new
  volw := r.volw
  volb := r.volb
  wdom := fun a h => by
    obtain ⟨h1, h2⟩ := r.wdom a h
    refine ⟨x.dom h1, ?_⟩
    cases q : H a with
    | none => exact absurd q h1
    | some o => rw [grow_some q]; exact h2
  ior := r.ior
end
def Nr (K : PySem.W.Frag) (n : Bool) (Hst Hs' : Hp) (v : V) (d : D) : Prop := n = true → d.flat = true → Rp K true (rs Hs' Hst) v d
def Sd (cf : Cf) (W : WX) (c : Cls) (n : Bool) (te : TE) (f : M D) : Prop :=
  ∀ (R : Rs) (Hs : Hp) (env : PEnv) (σ : L2.St) (H : Hp) (F : Nat → List Addr) (wf : List Addr), Rel cf R Hs env σ H F wf → ∀ Q : VK,
    match f env with
    | .ok d env' => (∀ v Hs' H', Stp cf wf env Hs H env' Hs' H' → Rel cf R Hs' env' σ H' F wf → Rp cf.K true (rg c R.H0 Hs' H H' wf) v d → Nr cf.K n H Hs' v d → Q v H') → te σ H Q
    | .ex x env' => (∀ Hs' H', Stp cf wf env Hs H env' Hs' H' → Rel cf R Hs' env' σ H' F wf → W (cf.cv x) none σ H') → te σ H Q
    | .stuck => True
def SdT (cf : Cf) (W : WX) (tt : TT) (f : M Bool) : Prop :=
  ∀ (R : Rs) (Hs : Hp) (env : PEnv) (σ : L2.St) (H : Hp) (F : Nat → List Addr) (wf : List Addr), Rel cf R Hs env σ H F wf → ∀ Q : Bool → Hp → Prop,
    match f env with
    | .ok b env' => (∀ Hs' H', Stp cf wf env Hs H env' Hs' H' → Rel cf R Hs' env' σ H' F wf → Q b H') → tt σ H Q
    | .ex x env' => (∀ Hs' H', Stp cf wf env Hs H env' Hs' H' → Rel cf R Hs' env' σ H' F wf → W (cf.cv x) none σ H') → tt σ H Q
    | .stuck => True
def SdA (cf : Cf) (W : WX) (c : Cls) (ta : TA) (f : M (List D)) : Prop :=
  ∀ (R : Rs) (Hs : Hp) (env : PEnv) (σ : L2.St) (H : Hp) (F : Nat → List Addr) (wf : List Addr), Rel cf R Hs env σ H F wf → ∀ Q : List V → Hp → Prop,
    match f env with
    | .ok ds env' => (∀ vs Hs' H', Stp cf wf env Hs H env' Hs' H' → Rel cf R Hs' env' σ H' F wf → RpL cf.K true (rg c R.H0 Hs' H H' wf) vs ds → Q vs H') → ta σ H Q
    | .ex x env' => (∀ Hs' H', Stp cf wf env Hs H env' Hs' H' → Rel cf R Hs' env' σ H' F wf → W (cf.cv x) none σ H') → ta σ H Q
    | .stuck => True
def Post (cf : Cf) (W : WX) (R : Rs) (Hs : Hp) (D : Ends) : Res Fl → Prop
  | .ok .nx env' => ∀ Hs' σ' H' F' wf', Ex Hs Hs' → Rel cf R Hs' env' σ' H' F' wf' → D.nx σ' H'
  | .ok (.rt d) env' => ∀ v Hs' σ' H' F' wf', Ex Hs Hs' → Rel cf R Hs' env' σ' H' F' wf' → Rp cf.K true (rs (rm H' wf') R.H0) v d → D.rt v H'
  | .ok .bk env' => ∀ Hs' σ' H' F' wf', Ex Hs Hs' → Rel cf R Hs' env' σ' H' F' wf' → D.bk σ' H'
  | .ok .ct env' => ∀ Hs' σ' H' F' wf', Ex Hs Hs' → Rel cf R Hs' env' σ' H' F' wf' → D.ct σ' H'
  | .ex x env' => ∀ Hs' σ' H' F' wf', Ex Hs Hs' → Rel cf R Hs' env' σ' H' F' wf' → W (cf.cv x) none σ' H'
  | .stuck => False
def SdS (cf : Cf) (W : WX) (ts : TS) (g : M Fl) : Prop :=
  ∀ (R : Rs) (Hs : Hp) (env : PEnv) (σ : L2.St) (H : Hp) (F : Nat → List Addr) (wf : List Addr), Rel cf R Hs env σ H F wf → ∀ D : Ends, Post cf W R Hs D (g env) → ts D σ H
structure SE (X : Cx) (cf : Cf) (W : WX) (c : Cls) (n : Bool) (e : Expr) (t : TE) (f : M D) : Prop where
  p : PE X e t
  s : Sd cf W c n t f
structure ST (X : Cx) (cf : Cf) (W : WX) (e : Expr) (t : TT) (f : M Bool) : Prop where
  p : PT X e t
  s : SdT cf W t f
structure SW (X : Cx) (cf : Cf) (W : WX) (e : Expr) (t : TT) (f : M Bool) : Prop where
  p : PW X e t
  s : SdT cf W t f
structure SA (X : Cx) (cf : Cf) (W : WX) (c : Cls) (es : List Expr) (t : TA) (f : M (List D)) : Prop where
  p : PA X es t
  s : SdA cf W c t f
def SS (X : Cx) (cf : Cf) (W : WX) (st : Stmt) (g : M Fl) : Prop := ∃ t, PS X st t ∧ SdS cf W t g
def SSs (X : Cx) (cf : Cf) (W : WX) (st : List Stmt) (g : M Fl) : Prop := ∃ t, PSs X st t ∧ SdS cf W t g
theorem Sd.le {cf : Cf} {W : WX} {c c' : Cls} {n : Bool} {te : TE} {f : M D} (h : Sd cf W c n te f) (l : Cls.Le c c') : Sd cf W c' n te f := by
  intro R Hs env σ H F wf r Q
  have h := h R Hs env σ H F wf r Q
  cases q : f env with
  | ok d env' =>
    rw [q] at h
    intro k
    refine h fun v Hs' H' s r' p nr => k v Hs' H' s r' (p.mono (rg_le l r'.exs r.dom0 fun a m => (r'.wdom a m).2)) nr
  | ex x env' => rw [q] at h; exact h
  | stuck => trivial
theorem SE.le {X : Cx} {cf : Cf} {W : WX} {c c' : Cls} {n : Bool} {e : Expr} {te : TE} {f : M D} (h : SE X cf W c n e te f) (l : Cls.Le c c') : SE X cf W c' n e te f := ⟨h.p, h.s.le l⟩
theorem Cls.leB (c : Cls) : Cls.Le c .B := by
  cases c with
  | V => exact .vb
  | N => exact .nb
  | S => exact .sb
  | L => exact .lb
  | B => exact .rfl _
theorem Sd.b {cf : Cf} {W : WX} {c : Cls} {n : Bool} {te : TE} {f : M D} (h : Sd cf W c n te f) : Sd cf W .B n te f := h.le (Cls.leB c)
theorem SE.b {X : Cx} {cf : Cf} {W : WX} {c : Cls} {n : Bool} {e : Expr} {te : TE} {f : M D} (h : SE X cf W c n e te f) : SE X cf W .B n e te f := h.le (Cls.leB c)
def ScF (f : M D) : Prop := ∀ env d env', f env = .ok d env' → d.sc = true
theorem Sd.low {cf : Cf} {W : WX} {c c' : Cls} {n n' : Bool} {te : TE} {f : M D} (s : Sd cf W c n te f) (hs : ScF f) : Sd cf W c' n' te f := by
  intro R Hs env σ H F wf r Q
  have h := s R Hs env σ H F wf r Q
  cases q : f env with
  | ok d env' =>
    rw [q] at h
    exact fun k => h fun v Hs' H' st r' p nr => k v Hs' H' st r' (p.sc_any (hs _ _ _ q) _ _) fun _ _ => p.sc_any (hs _ _ _ q) _ _
  | ex x env' => rw [q] at h; exact h
  | stuck => trivial
theorem SE.low {X : Cx} {cf : Cf} {W : WX} {c c' : Cls} {n n' : Bool} {e : Expr} {te : TE} {f : M D} (h : SE X cf W c n e te f) (hs : ScF f) : SE X cf W c' n' e te f := ⟨h.p, h.s.low hs⟩
def eF (f : M D) : M D := bnd f fun d => lift (if d.flat then some d else none)
theorem SE.flat {X : Cx} {cf : Cf} {W : WX} {c : Cls} {e : Expr} {te : TE} {f : M D} (h : SE X cf W c true e te f) : SE X cf W .V true e te (eF f) := by
  obtain ⟨p, s⟩ := h
  refine ⟨p, fun R Hs env σ H F wf r Q => ?_⟩
  have h := s R Hs env σ H F wf r Q
  cases q : f env with
  | ok d env' =>
    rw [q] at h
    cases hf : d.flat with
    | true =>
      have e1 : eF f env = .ok d env' := by simp [eF, bnd, lift, q, hf]
      rw [e1]
      exact fun k => h fun v Hs' H' st r' p nr => k v Hs' H' st r' (nr rfl hf) nr
    | false =>
      have e1 : eF f env = .stuck := by simp [eF, bnd, lift, q, hf]
      rw [e1]
      trivial
  | ex x env' =>
    rw [q] at h
    have e1 : eF f env = .ex x env' := by simp [eF, bnd, q]
    rw [e1]
    exact h
  | stuck =>
    have e1 : eF f env = .stuck := by simp [eF, bnd, q]
    rw [e1]
    trivial
end MV
namespace MV
open PySem L2
section
variable {α β : Type} {m : M α} {k : α → M β} {e e' : PEnv} {b : β} {a : α} {x : Str} {o : Option α}
theorem bnd_ok (h : bnd m k e = .ok b e') : ∃ a e1, m e = .ok a e1 ∧ k a e1 = .ok b e' := by
  unfold bnd at h
  cases q : m e with
  | ok a e1 => rw [q] at h; exact ⟨a, e1, rfl, h⟩
  | ex c e1 => rw [q] at h; cases h
  | stuck => rw [q] at h; cases h
theorem bnd_ex (h : bnd m k e = .ex x e') : m e = .ex x e' ∨ ∃ a e1, m e = .ok a e1 ∧ k a e1 = .ex x e' := by
  unfold bnd at h
  cases q : m e with
  | ok a e1 => rw [q] at h; exact .inr ⟨a, e1, rfl, h⟩
  | ex c e1 => rw [q] at h; exact .inl (show Res.ex c e1 = Res.ex x e' from by cases h; rfl)
  | stuck => rw [q] at h; cases h
theorem bnd_of_ok {e1 : PEnv} (h : m e = .ok a e1) : bnd m k e = k a e1 := by unfold bnd; rw [h]
theorem bnd_of_ex {e1 : PEnv} (h : m e = .ex x e1) : bnd m k e = .ex x e1 := by unfold bnd; rw [h]
theorem bnd_of_stuck (h : m e = .stuck) : bnd m k e = .stuck := by unfold bnd; rw [h]
theorem lift_ok (h : lift o e = .ok a e') : o = some a ∧ e' = e := by
  unfold lift at h
  cases o with
  | none => cases h
  | some z => cases h; exact ⟨rfl, rfl⟩
theorem lift_ex (h : lift o e = .ex x e') : False := by
  unfold lift at h
  cases o with
  | none => cases h
  | some z => cases h
end
section
variable {cf : Cf} {W : WX} {c : Cls} {n : Bool} {te : TE} {f : M D} {R : Rs} {Hs : Hp} {env env' : PEnv} {σ : L2.St} {H : Hp} {F : Nat → List Addr} {wf : List Addr}
theorem Sd.ok (s : Sd cf W c n te f) (r : Rel cf R Hs env σ H F wf) {d : D} (q : f env = .ok d env') {Q : VK} (k : ∀ v Hs' H', Stp cf wf env Hs H env' Hs' H' → Rel cf R Hs' env' σ H' F wf → Rp cf.K true (rg c R.H0 Hs' H H' wf) v d → Nr cf.K n H Hs' v d → Q v H') : te σ H Q := by
  have h := s R Hs env σ H F wf r Q
  rw [q] at h
  exact h k
theorem Sd.exn (s : Sd cf W c n te f) (r : Rel cf R Hs env σ H F wf) {x : Str} (q : f env = .ex x env') {Q : VK} (k : ∀ Hs' H', Stp cf wf env Hs H env' Hs' H' → Rel cf R Hs' env' σ H' F wf → W (cf.cv x) none σ H') : te σ H Q := by
  have h := s R Hs env σ H F wf r Q
  rw [q] at h
  exact h k
theorem Sd.mk (h1 : ∀ R Hs env σ H F wf, Rel cf R Hs env σ H F wf → ∀ d env', f env = .ok d env' → ∀ Q : VK, (∀ v Hs' H', Stp cf wf env Hs H env' Hs' H' → Rel cf R Hs' env' σ H' F wf → Rp cf.K true (rg c R.H0 Hs' H H' wf) v d → Nr cf.K n H Hs' v d → Q v H') → te σ H Q)
    (h2 : ∀ R Hs env σ H F wf, Rel cf R Hs env σ H F wf → ∀ x env', f env = .ex x env' → ∀ Q : VK, (∀ Hs' H', Stp cf wf env Hs H env' Hs' H' → Rel cf R Hs' env' σ H' F wf → W (cf.cv x) none σ H') → te σ H Q) : Sd cf W c n te f := by
  intro R Hs env σ H F wf r Q
  cases q : f env with
  | ok d env' => exact h1 R Hs env σ H F wf r d env' q Q
  | ex x env' => exact h2 R Hs env σ H F wf r x env' q Q
  | stuck => trivial
theorem SdT.ok {tt : TT} {f : M Bool} (s : SdT cf W tt f) (r : Rel cf R Hs env σ H F wf) {d : Bool} (q : f env = .ok d env') {Q : Bool → Hp → Prop} (k : ∀ Hs' H', Stp cf wf env Hs H env' Hs' H' → Rel cf R Hs' env' σ H' F wf → Q d H') : tt σ H Q := by
  have h := s R Hs env σ H F wf r Q
  rw [q] at h
  exact h k
theorem SdT.exn {tt : TT} {f : M Bool} (s : SdT cf W tt f) (r : Rel cf R Hs env σ H F wf) {x : Str} (q : f env = .ex x env') {Q : Bool → Hp → Prop} (k : ∀ Hs' H', Stp cf wf env Hs H env' Hs' H' → Rel cf R Hs' env' σ H' F wf → W (cf.cv x) none σ H') : tt σ H Q := by
  have h := s R Hs env σ H F wf r Q
  rw [q] at h
  exact h k
theorem SdT.mk {tt : TT} {f : M Bool} (h1 : ∀ R Hs env σ H F wf, Rel cf R Hs env σ H F wf → ∀ d env', f env = .ok d env' → ∀ Q : Bool → Hp → Prop, (∀ Hs' H', Stp cf wf env Hs H env' Hs' H' → Rel cf R Hs' env' σ H' F wf → Q d H') → tt σ H Q)
    (h2 : ∀ R Hs env σ H F wf, Rel cf R Hs env σ H F wf → ∀ x env', f env = .ex x env' → ∀ Q : Bool → Hp → Prop, (∀ Hs' H', Stp cf wf env Hs H env' Hs' H' → Rel cf R Hs' env' σ H' F wf → W (cf.cv x) none σ H') → tt σ H Q) : SdT cf W tt f := by
  intro R Hs env σ H F wf r Q
  cases q : f env with
  | ok d env' => exact h1 R Hs env σ H F wf r d env' q Q
  | ex x env' => exact h2 R Hs env σ H F wf r x env' q Q
  | stuck => trivial
theorem SdA.ok {ta : TA} {f : M (List D)} (s : SdA cf W c ta f) (r : Rel cf R Hs env σ H F wf) {d : List D} (q : f env = .ok d env') {Q : List V → Hp → Prop} (k : ∀ vs Hs' H', Stp cf wf env Hs H env' Hs' H' → Rel cf R Hs' env' σ H' F wf → RpL cf.K true (rg c R.H0 Hs' H H' wf) vs d → Q vs H') : ta σ H Q := by
  have h := s R Hs env σ H F wf r Q
  rw [q] at h
  exact h k
theorem SdA.exn {ta : TA} {f : M (List D)} (s : SdA cf W c ta f) (r : Rel cf R Hs env σ H F wf) {x : Str} (q : f env = .ex x env') {Q : List V → Hp → Prop} (k : ∀ Hs' H', Stp cf wf env Hs H env' Hs' H' → Rel cf R Hs' env' σ H' F wf → W (cf.cv x) none σ H') : ta σ H Q := by
  have h := s R Hs env σ H F wf r Q
  rw [q] at h
  exact h k
theorem SdA.mk {ta : TA} {f : M (List D)} (h1 : ∀ R Hs env σ H F wf, Rel cf R Hs env σ H F wf → ∀ d env', f env = .ok d env' → ∀ Q : List V → Hp → Prop, (∀ vs Hs' H', Stp cf wf env Hs H env' Hs' H' → Rel cf R Hs' env' σ H' F wf → RpL cf.K true (rg c R.H0 Hs' H H' wf) vs d → Q vs H') → ta σ H Q)
    (h2 : ∀ R Hs env σ H F wf, Rel cf R Hs env σ H F wf → ∀ x env', f env = .ex x env' → ∀ Q : List V → Hp → Prop, (∀ Hs' H', Stp cf wf env Hs H env' Hs' H' → Rel cf R Hs' env' σ H' F wf → W (cf.cv x) none σ H') → ta σ H Q) : SdA cf W c ta f := by
  intro R Hs env σ H F wf r Q
  cases q : f env with
  | ok d env' => exact h1 R Hs env σ H F wf r d env' q Q
  | ex x env' => exact h2 R Hs env σ H F wf r x env' q Q
  | stuck => trivial
end
def eV (i : Nat) : M D := fun e => match e[i]? with
  | some (some d) => .ok d e
  | _ => .stuck
def eC (d : D) : M D := fun e => .ok d e
theorem eV_ok {i : Nat} {e e' : PEnv} {d : D} (h : eV i e = .ok d e') : e[i]? = some (some d) ∧ e' = e := by
  unfold eV at h
  split at h
  · rename_i d' q; cases h; exact ⟨q, rfl⟩
  · cases h
theorem eV_ex {i : Nat} {e e' : PEnv} {x : Str} (h : eV i e = .ex x e') : False := by
  unfold eV at h
  split at h <;> cases h
section
variable {X : Cx} {cf : Cf} {W : WX}
theorem sd_var {c : Cls} {i : Nat} (hk : ∀ R Hs env σ H F wf, Rel cf R Hs env σ H F wf → ∀ v d, SlotR cf.K R Hs H (F i) (cf.kd i) v d → Rp cf.K true (rg c R.H0 Hs H H wf) v d) : Sd cf W c false (tVar i) (eV i) := by
  refine Sd.mk (fun R Hs env σ H F wf r d env' q Q k => ?_) (fun _ _ _ _ _ _ _ _ _ _ q => (eV_ex q).elim)
  obtain ⟨q, rfl⟩ := eV_ok q
  obtain ⟨v, hv, hs⟩ := r.slot i d q
  exact ⟨v, hv, k v Hs H Stp.refl r (hk R Hs env' σ H F wf r v d hs) fun z => by cases z⟩
theorem se_vS (i : Nat) {e : Expr} (p : PE X e (tVar i)) (hk : cf.kd i = .S) : SE X cf W .S false e (tVar i) (eV i) := ⟨p, sd_var fun R Hs env σ H F wf r v d h => by rw [hk] at h; exact h⟩
theorem se_vN (i : Nat) {e : Expr} (p : PE X e (tVar i)) (hk : cf.kd i = .N) : SE X cf W .N false e (tVar i) (eV i) := ⟨p, sd_var fun R Hs env σ H F wf r v d h => by rw [hk] at h; exact h⟩
theorem Rel.mL {R : Rs} {Hs : Hp} {env : PEnv} {σ : L2.St} {H : Hp} {F : Nat → List Addr} {wf : List Addr} (r : Rel cf R Hs env σ H F wf) {i : Nat} (hk : cf.kd i ≠ .W) : ∀ a ∈ F i, ∀ o, H a = some o → rs (rm H wf) R.H0 a = some o := fun a m o h => by
  have h0 : R.H0 a = none := by
    rcases r.new i a m with z | z
    · obtain ⟨_, hF, hw, _⟩ := r.ior a z
      by_cases e : i = 0
      · subst e; exact absurd hw hk
      · exact absurd (by rw [hF]; exact List.mem_singleton.mpr rfl) (r.dis i 0 e a m)
    · exact z
  rw [rs_none h0]
  unfold rm
  rw [if_neg (r.volb i hk a m)]
  exact h
theorem sd_C {v : V} {d : D} (h : d.toV = some v) : Sd cf W .V true (tC v) (eC d) :=
  Sd.mk (fun R Hs env σ H F wf r d' env' q Q k => by cases q; exact k v Hs H Stp.refl r (.sc h) fun _ _ => .sc h) (fun _ _ _ _ _ _ _ _ _ _ q => by cases q)
theorem se_int {i : Int} {j : Nat} {pos : Pos} : SE X cf W .V true (.Constant (.int i) j pos) (tC (.int i)) (eC (.int i)) := ⟨pe_int, sd_C rfl⟩
theorem se_bl {b : Bool} {j : Nat} {pos : Pos} : SE X cf W .V true (.Constant (.bool b) j pos) (tC (.bl b)) (eC (.bl b)) := ⟨pe_bl, sd_C rfl⟩
theorem se_str {x : Str} {j : Nat} {pos : Pos} : SE X cf W .V true (.Constant (.str x) j pos) (tC (.str x)) (eC (.str x)) := ⟨pe_str, sd_C rfl⟩
theorem se_glob {e : Expr} {v : V} {d : D} (p : PE X e (tC v)) (h : d.toV = some v) : SE X cf W .V true e (tC v) (eC d) := ⟨p, sd_C h⟩
end
def e1 (g : D → Option D) (a : M D) : M D := bnd a fun x => lift (g x)
def e2 (g : D → D → Option D) (a b : M D) : M D := bnd a fun x => bnd b fun y => lift (g x y)
def eN (g : List D → Option D) (a : M (List D)) : M D := bnd a fun x => lift (g x)
def aNil : M (List D) := ret []
def aCons (a : M D) (r : M (List D)) : M (List D) := bnd a fun x => bnd r fun xs => ret (x :: xs)
def Nn (K : PySem.W.Frag) (n : Bool) (H H' : Hp) (v : V) (d : D) : Prop := n = true → d.flat = true → Rp K true (nw H H') v d
def Snd1 (K : PySem.W.Frag) (n : Bool) (r : V → Hp → VK → Prop) (g : D → Option D) : Prop := ∀ (G H : Hp) (x : V) (d1 d : D), Ex G H → Rp K true G x d1 → g d1 = some d → ∀ Q : VK, (∀ v H', Ex H H' → Rp K true (grow G H H') v d → Nn K n H H' v d → Q v H') → r x H Q
def Snd2 (K : PySem.W.Frag) (n : Bool) (r : R2) (g : D → D → Option D) : Prop := ∀ (G H : Hp) (x y : V) (d1 d2 d : D), Ex G H → Rp K true G x d1 → Rp K true G y d2 → g d1 d2 = some d → ∀ Q : VK, (∀ v H', Ex H H' → Rp K true (grow G H H') v d → Nn K n H H' v d → Q v H') → r x y H Q
def SndN (K : PySem.W.Frag) (n : Bool) (r : List V → Hp → VK → Prop) (g : List D → Option D) : Prop := ∀ (G H : Hp) (xs : List V) (ds : List D) (d : D), Ex G H → RpL K true G xs ds → g ds = some d → ∀ Q : VK, (∀ v H', Ex H H' → Rp K true (grow G H H') v d → Nn K n H H' v d → Q v H') → r xs H Q
theorem nr_of {K : PySem.W.Frag} {n : Bool} {Hst Hs H H' : Hp} {v : V} {d : D} (ds : ∀ a, Hst a ≠ none → H a ≠ none) (h : Nn K n H H' v d) : Nr K n Hst (grow Hs H H') v d := fun z hf => (h z hf).mono fun a o q => by
  cases e : H a with
  | none =>
    rw [nw_none e] at q
    have : Hst a = none := by
      cases z : Hst a with
      | none => rfl
      | some u => exact absurd e (ds a (by rw [z]; exact fun y => by cases y))
    rw [rs_none this, grow_none e]; exact q
  | some u => rw [nw_some e] at q; cases q
section
variable {X : Cx} {cf : Cf} {W : WX} {c : Cls} {n n1 n2 : Bool}
theorem fin_op {R : Rs} {Hs Hs2 : Hp} {env env2 : PEnv} {σ : L2.St} {H H2 H3 : Hp} {F : Nat → List Addr} {wf : List Addr} {v : V} {d : D} (s : Stp cf wf env Hs H env2 Hs2 H2) (r : Rel cf R Hs2 env2 σ H2 F wf) (x : Ex H2 H3) (p : Rp cf.K true (grow (rg c R.H0 Hs2 H H2 wf) H2 H3) v d) (nn : Nn cf.K n H2 H3 v d) {Q : VK}
    (k : ∀ v Hs' H', Stp cf wf env Hs H env2 Hs' H' → Rel cf R Hs' env2 σ H' F wf → Rp cf.K true (rg c R.H0 Hs' H H' wf) v d → Nr cf.K n H Hs' v d → Q v H') : Q v H3 :=
  k v (grow Hs2 H2 H3) H3 (s.trans (Stp.grow r.exs x)) (r.grow x) (p.mono (rg_grow r.dom0 s.dom (fun a m => (r.wdom a m).1) r.exs x)) (nr_of s.dom nn)
theorem sd_op1 {r : V → Hp → VK → Prop} {g : D → Option D} {ta : TE} {fa : M D} (hs : Snd1 cf.K n r g) (ha : Sd cf W c n1 ta fa) : Sd cf W c n (tUn r ta) (e1 g fa) := by
  refine Sd.mk (fun R Hs env σ H F wf r d env' q Q k => ?_) (fun R Hs env σ H F wf r x env' q Q k => ?_)
  · obtain ⟨d1, env1, q1, q⟩ := bnd_ok q
    obtain ⟨qg, rfl⟩ := lift_ok q
    exact ha.ok r q1 fun v Hs1 H1 s1 r1 p1 _ => hs _ H1 v d1 d (rg_sub r1.exs) p1 qg Q fun v2 H2 x p nn => fin_op s1 r1 x p nn k
  · rcases bnd_ex q with q | ⟨d1, env1, q1, q⟩
    · exact ha.exn r q k
    · exact (lift_ex q).elim
theorem sd_op2 {r : R2} {g : D → D → Option D} {ta tb : TE} {fa fb : M D} (hs : Snd2 cf.K n r g) (ha : Sd cf W c n1 ta fa) (hb : Sd cf W c n2 tb fb) : Sd cf W c n (tOp r ta tb) (e2 g fa fb) := by
  refine Sd.mk (fun R Hs env σ H F wf r d env' q Q k => ?_) (fun R Hs env σ H F wf r x env' q Q k => ?_)
  · obtain ⟨d1, env1, q1, q⟩ := bnd_ok q
    obtain ⟨d2, env2, q2, q⟩ := bnd_ok q
    obtain ⟨qg, rfl⟩ := lift_ok q
    exact ha.ok r q1 fun v Hs1 H1 s1 r1 p1 _ => hb.ok r1 q2 fun v2 Hs2 H2 s2 r2 p2 _ =>
      hs (rg c R.H0 Hs2 H H2 wf) H2 v v2 d1 d2 d (rg_sub r2.exs) (p1.mono (rg_step s2)) (p2.mono (rg_start s1.dom)) qg Q fun v3 H3 x p nn => fin_op (s1.trans s2) r2 x p nn k
  · rcases bnd_ex q with q | ⟨d1, env1, q1, q⟩
    · exact ha.exn r q k
    · rcases bnd_ex q with q | ⟨d2, env2, q2, q⟩
      · exact ha.ok r q1 fun v Hs1 H1 s1 r1 p1 _ => hb.exn r1 q fun Hs2 H2 s2 r2 => k Hs2 H2 (s1.trans s2) r2
      · exact (lift_ex q).elim
theorem sd_opN {r : List V → Hp → VK → Prop} {g : List D → Option D} {ta : TA} {fa : M (List D)} (hs : SndN cf.K n r g) (ha : SdA cf W c ta fa) : Sd cf W c n (tCB r ta) (eN g fa) := by
  refine Sd.mk (fun R Hs env σ H F wf r d env' q Q k => ?_) (fun R Hs env σ H F wf r x env' q Q k => ?_)
  · obtain ⟨d1, env1, q1, q⟩ := bnd_ok q
    obtain ⟨qg, rfl⟩ := lift_ok q
    exact ha.ok r q1 fun v Hs1 H1 s1 r1 p1 => hs _ H1 v d1 d (rg_sub r1.exs) p1 qg Q fun v2 H2 x p nn => fin_op s1 r1 x p nn k
  · rcases bnd_ex q with q | ⟨d1, env1, q1, q⟩
    · exact ha.exn r q k
    · exact (lift_ex q).elim
theorem sda_nil : SdA cf W c tNil aNil := SdA.mk (fun R Hs env σ H F wf r d env' q Q k => by cases q; exact k [] Hs H Stp.refl r .nil) (fun _ _ _ _ _ _ _ _ _ _ q => by cases q)
theorem sda_cons {ta : TE} {fa : M D} {tr : TA} {fr : M (List D)} (ha : Sd cf W c n1 ta fa) (hr : SdA cf W c tr fr) : SdA cf W c (tCons ta tr) (aCons fa fr) := by
  refine SdA.mk (fun R Hs env σ H F wf r d env' q Q k => ?_) (fun R Hs env σ H F wf r x env' q Q k => ?_)
  · obtain ⟨d1, env1, q1, q⟩ := bnd_ok q
    obtain ⟨d2, env2, q2, q⟩ := bnd_ok q
    cases q
    exact ha.ok r q1 fun v Hs1 H1 s1 r1 p1 _ => hr.ok r1 q2 fun v2 Hs2 H2 s2 r2 p2 => k (v :: v2) Hs2 H2 (s1.trans s2) r2 (.cons (p1.mono (rg_step s2)) (p2.mono (rg_start s1.dom)))
  · rcases bnd_ex q with q | ⟨d1, env1, q1, q⟩
    · exact ha.exn r q k
    · rcases bnd_ex q with q | ⟨d2, env2, q2, q⟩
      · exact ha.ok r q1 fun v Hs1 H1 s1 r1 p1 _ => hr.exn r1 q fun Hs2 H2 s2 r2 => k Hs2 H2 (s1.trans s2) r2
      · cases q
theorem sa_nil : SA X cf W c [] tNil aNil := ⟨pa_nil, sda_nil⟩
theorem sa_cons {e : Expr} {es : List Expr} {ta : TE} {tr : TA} {fa : M D} {fr : M (List D)} (ha : SE X cf W c n1 e ta fa) (hr : SA X cf W c es tr fr) (hs : starEach (e :: es) X.env = (false, eval e X.env) :: starEach es X.env := by rfl) : SA X cf W c (e :: es) (tCons ta tr) (aCons fa fr) := ⟨pa_cons ha.p hr.p hs, sda_cons ha.s hr.s⟩
def gLst (ds : List D) : Option D := if ds.length ≤ sizeLine then some (.lst ds) else none
def gTupD (ds : List D) : Option D := if ds.length ≤ sizeLine then some (.tup ds) else none
theorem new_rp {K : PySem.W.Frag} {G H : Hp} {p : Addr} {xs : List V} {ds : List D} (e : Ex G H) (hp : H p = none) (h : RpL K true G xs ds) : Rp K true (grow G H (upd H p (.lst xs))) (.ref p) (.lst ds) :=
  .lst (show grow G H (upd H p (.lst xs)) p = _ by rw [grow_none hp, upd_same]) (h.mono (Ex.grow e (Ex.new hp)))
theorem new_nn {K : PySem.W.Frag} {n : Bool} {G H : Hp} {p : Addr} {xs : List V} {ds : List D} (hp : H p = none) (h : RpL K true G xs ds) : Nn K n H (upd H p (.lst xs)) (.ref p) (.lst ds) := fun _ hf =>
  .lst (show nw H (upd H p (.lst xs)) p = _ by rw [nw_none hp, upd_same]) (h.sc_any hf _ _)
theorem newT_rp {K : PySem.W.Frag} {G H : Hp} {p : Addr} {xs : List V} {ds : List D} (e : Ex G H) (hp : H p = none) (h : RpL K true G xs ds) : Rp K true (grow G H (upd H p (.tup xs))) (.ref p) (.tup ds) :=
  .tup (show grow G H (upd H p (.tup xs)) p = _ by rw [grow_none hp, upd_same]) (h.mono (Ex.grow e (Ex.new hp)))
theorem newT_nn {K : PySem.W.Frag} {n : Bool} {G H : Hp} {p : Addr} {xs : List V} {ds : List D} (hp : H p = none) (h : RpL K true G xs ds) : Nn K n H (upd H p (.tup xs)) (.ref p) (.tup ds) := fun _ hf =>
  .tup (show nw H (upd H p (.tup xs)) p = _ by rw [nw_none hp, upd_same]) (h.sc_any hf _ _)
theorem snd_lst {K : PySem.W.Frag} {n : Bool} : SndN K n (fun xs H1 Q => xs.length ≤ sizeLine ∧ ∀ p, H1 p = none → Q (.ref p) (upd H1 p (.lst xs))) gLst := fun G H xs ds d e h q Q k => by
  unfold gLst at q
  split at q
  · cases q
    rename_i hl
    exact ⟨by rw [h.length]; exact hl, fun p hp => k _ _ (Ex.new hp) (new_rp e hp h) (new_nn hp h)⟩
  · cases q
theorem snd_tup {K : PySem.W.Frag} {n : Bool} : SndN K n (fun xs H1 Q => xs.length ≤ sizeLine ∧ ∀ p, H1 p = none → Q (.ref p) (upd H1 p (.tup xs))) gTupD := fun G H xs ds d e h q Q k => by
  unfold gTupD at q
  split at q
  · cases q
    rename_i hl
    exact ⟨by rw [h.length]; exact hl, fun p hp => k _ _ (Ex.new hp) (newT_rp e hp h) (newT_nn hp h)⟩
  · cases q
theorem se_lst {es : List Expr} {ta : TA} {fa : M (List D)} {pos : Pos} (h : SA X cf W c es ta fa) : SE X cf W c true (.List es pos) (tLst ta) (eN gLst fa) := by
  obtain ⟨p, s⟩ := h
  exact ⟨pe_lst p, sd_opN (r := fun xs H1 Q => xs.length ≤ sizeLine ∧ ∀ p, H1 p = none → Q (.ref p) (upd H1 p (.lst xs))) snd_lst s⟩
theorem se_tup {es : List Expr} {ta : TA} {fa : M (List D)} {x1 : Nat} {pos : Pos} (h : SA X cf W c es ta fa) : SE X cf W c true (.Tuple es x1 pos) (tTup ta) (eN gTupD fa) := by
  obtain ⟨p, s⟩ := h
  exact ⟨pe_tup p, sd_opN (r := fun xs H1 Q => xs.length ≤ sizeLine ∧ ∀ p, H1 p = none → Q (.ref p) (upd H1 p (.tup xs))) snd_tup s⟩
theorem se_bin {op : Operator} {r : R2} {g : D → D → Option D} {a b : Expr} {ta tb : TE} {fa fb : M D} {pos : Pos} (ho : OpR X (binaryOp op) r) (hs : Snd2 cf.K n r g) (ha : SE X cf W c n1 a ta fa) (hb : SE X cf W c n2 b tb fb) : SE X cf W c n (.BinOp a op b pos) (tOp r ta tb) (e2 g fa fb) := ⟨pe_op ho ha.p hb.p, sd_op2 hs ha.s hb.s⟩
theorem se_una {op : UnaryOp} {r : V → Hp → VK → Prop} {g : D → Option D} {a : Expr} {ta : TE} {fa : M D} {pos : Pos} (ho : UnR X (unaryOp op) r) (hs : Snd1 cf.K n r g) (ha : SE X cf W c n1 a ta fa) : SE X cf W c n (.UnaryOp op a pos) (tUn r ta) (e1 g fa) := ⟨pe_un ho ha.p, sd_op1 hs ha.s⟩
theorem se_cmp {op : CmpOp} {r : R2} {g : D → D → Option D} {a b : Expr} {ta tb : TE} {fa fb : M D} {pos : Pos} (ho : OpR X (compareOp op) r) (hs : Snd2 cf.K n r g) (ha : SE X cf W c n1 a ta fa) (hb : SE X cf W c n2 b tb fb) (hm : behindInMarks op b = false) : SE X cf W c n (.Compare a [op] [b] pos) (tOp r ta tb) (e2 g fa fb) := ⟨pe_cmpR ho ha.p hb.p hm, sd_op2 hs ha.s hb.s⟩
def asB (d : D) : Option Bool := match d with
  | .bl b => some b
  | _ => none
def tB (f : M D) : M Bool := bnd f fun d => lift (asB d)
theorem asB_some {d : D} {b : Bool} (h : asB d = some b) : d = .bl b := by
  unfold asB at h
  split at h
  · cases h; rfl
  · cases h
theorem sdt_test {te : TE} {f : M D} (h : Sd cf W c n te f) : SdT cf W (tTest te) (tB f) := by
  refine SdT.mk (fun R Hs env σ H F wf r d env' q Q k => ?_) (fun R Hs env σ H F wf r x env' q Q k => ?_)
  · obtain ⟨d1, env1, q1, q⟩ := bnd_ok q
    obtain ⟨qg, rfl⟩ := lift_ok q
    cases asB_some qg
    exact h.ok r q1 fun v Hs1 H1 s1 r1 p1 _ => ⟨d, p1.bl_inv, k Hs1 H1 s1 r1⟩
  · rcases bnd_ex q with q | ⟨d1, env1, q1, q⟩
    · exact h.exn r q k
    · exact (lift_ex q).elim
theorem st_cmp {op : CmpOp} {r : R2} {g : D → D → Option D} {a b : Expr} {ta tb : TE} {fa fb : M D} {pos : Pos} (ho : OpR X (compareOp op) r) (hs : Snd2 cf.K n r g) (ha : SE X cf W c n1 a ta fa) (hb : SE X cf W c n2 b tb fb) (hm : behindInMarks op b = false) : ST X cf W (.Compare a [op] [b] pos) (tTest (tOp r ta tb)) (tB (e2 g fa fb)) := ⟨pt_cmpR ho ha.p hb.p hm, sdt_test (sd_op2 hs ha.s hb.s)⟩
theorem st_val {e : Expr} {te : TE} {f : M D} (h : SE X cf W c n e te f) (he : ∀ whole, isTrue e X.env whole = (do let v ← whole; standAt e.pos; holding [v] (truthy v)) := by intro _; rfl) : ST X cf W e (L2.tB te) (tB f) := ⟨pt_val h.p he, sdt_test h.s⟩
def tAnd2 (a b : M Bool) : M Bool := bnd a fun x => if x then b else ret false
def tOr2 (a b : M Bool) : M Bool := bnd a fun x => if x then ret true else b
def tNot1 (a : M Bool) : M Bool := bnd a fun x => ret (!x)
theorem sdt_and {ta tb : TT} {fa fb : M Bool} (ha : SdT cf W ta fa) (hb : SdT cf W tb fb) : SdT cf W (tAnd ta tb) (tAnd2 fa fb) := by
  refine SdT.mk (fun R Hs env σ H F wf r d env' q Q k => ?_) (fun R Hs env σ H F wf r x env' q Q k => ?_)
  · obtain ⟨d1, env1, q1, q⟩ := bnd_ok q
    refine ha.ok r q1 fun Hs1 H1 s1 r1 => ?_
    cases d1 with
    | true => exact hb.ok r1 q fun Hs2 H2 s2 r2 => k Hs2 H2 (s1.trans s2) r2
    | false => cases q; exact k Hs1 H1 s1 r1
  · rcases bnd_ex q with q | ⟨d1, env1, q1, q⟩
    · exact ha.exn r q k
    · refine ha.ok r q1 fun Hs1 H1 s1 r1 => ?_
      cases d1 with
      | true => exact hb.exn r1 q fun Hs2 H2 s2 r2 => k Hs2 H2 (s1.trans s2) r2
      | false => cases q
theorem sdt_or {ta tb : TT} {fa fb : M Bool} (ha : SdT cf W ta fa) (hb : SdT cf W tb fb) : SdT cf W (tOr ta tb) (tOr2 fa fb) := by
  refine SdT.mk (fun R Hs env σ H F wf r d env' q Q k => ?_) (fun R Hs env σ H F wf r x env' q Q k => ?_)
  · obtain ⟨d1, env1, q1, q⟩ := bnd_ok q
    refine ha.ok r q1 fun Hs1 H1 s1 r1 => ?_
    cases d1 with
    | false => exact hb.ok r1 q fun Hs2 H2 s2 r2 => k Hs2 H2 (s1.trans s2) r2
    | true => cases q; exact k Hs1 H1 s1 r1
  · rcases bnd_ex q with q | ⟨d1, env1, q1, q⟩
    · exact ha.exn r q k
    · refine ha.ok r q1 fun Hs1 H1 s1 r1 => ?_
      cases d1 with
      | false => exact hb.exn r1 q fun Hs2 H2 s2 r2 => k Hs2 H2 (s1.trans s2) r2
      | true => cases q
theorem sdt_not {ta : TT} {fa : M Bool} (ha : SdT cf W ta fa) : SdT cf W (tNot ta) (tNot1 fa) := by
  refine SdT.mk (fun R Hs env σ H F wf r d env' q Q k => ?_) (fun R Hs env σ H F wf r x env' q Q k => ?_)
  · obtain ⟨d1, env1, q1, q⟩ := bnd_ok q
    cases q
    exact ha.ok r q1 k
  · rcases bnd_ex q with q | ⟨d1, env1, q1, q⟩
    · exact ha.exn r q k
    · cases q
theorem sw_and1 {a : Expr} {ta : TT} {fa : M Bool} {pos : Pos} (h : ST X cf W a ta fa) : SW X cf W (.BoolOp .And [a] pos) ta fa := ⟨pw_and1 h.p, h.s⟩
theorem sw_or1 {a : Expr} {ta : TT} {fa : M Bool} {pos : Pos} (h : ST X cf W a ta fa) : SW X cf W (.BoolOp .Or [a] pos) ta fa := ⟨pw_or1 h.p, h.s⟩
theorem sw_and {a b : Expr} {rest : List Expr} {ta tb : TT} {fa fb : M Bool} {pos : Pos} (h : ST X cf W a ta fa) (h2 : SW X cf W (.BoolOp .And (b :: rest) pos) tb fb) : SW X cf W (.BoolOp .And (a :: b :: rest) pos) (tAnd ta tb) (tAnd2 fa fb) := ⟨pw_and h.p h2.p, sdt_and h.s h2.s⟩
theorem sw_or {a b : Expr} {rest : List Expr} {ta tb : TT} {fa fb : M Bool} {pos : Pos} (h : ST X cf W a ta fa) (h2 : SW X cf W (.BoolOp .Or (b :: rest) pos) tb fb) : SW X cf W (.BoolOp .Or (a :: b :: rest) pos) (tOr ta tb) (tOr2 fa fb) := ⟨pw_or h.p h2.p, sdt_or h.s h2.s⟩
theorem SW.st {e : Expr} {ta : TT} {f : M Bool} (h : SW X cf W e ta f) : ST X cf W e ta f := ⟨h.p.pt, h.s⟩
theorem st_not {a : Expr} {ta : TT} {fa : M Bool} {pos : Pos} (h : ST X cf W a ta fa) : ST X cf W (.UnaryOp .Not a pos) (tNot ta) (tNot1 fa) := ⟨pt_not h.p, sdt_not h.s⟩
def eAndV (a b : M D) : M D := bnd a fun x => bnd (lift (asB x)) fun k => if k then b else ret (.bl false)
def eOrV (a b : M D) : M D := bnd a fun x => bnd (lift (asB x)) fun k => if k then ret (.bl true) else b
def eNotV (a : M D) : M D := bnd a fun x => bnd (lift (asB x)) fun k => ret (.bl (!k))
def eIfE (t : M Bool) (a b : M D) : M D := bnd t fun k => if k then a else b
theorem sd_andV {ta tb : TE} {fa fb : M D} (ha : Sd cf W c n1 ta fa) (hb : Sd cf W c n2 tb fb) : Sd cf W c n2 (tAndV ta tb) (eAndV fa fb) := by
  refine Sd.mk (fun R Hs env σ H F wf r d env' q Q k => ?_) (fun R Hs env σ H F wf r x env' q Q k => ?_)
  · obtain ⟨d1, env1, q1, q⟩ := bnd_ok q
    obtain ⟨b, env2, q2, q⟩ := bnd_ok q
    obtain ⟨qb, rfl⟩ := lift_ok q2
    cases asB_some qb
    refine ha.ok r q1 fun v Hs1 H1 s1 r1 p1 _ => ⟨b, p1.bl_inv, ?_⟩
    cases b with
    | true => exact hb.ok r1 q fun v2 Hs2 H2 s2 r2 p2 nr => k v2 Hs2 H2 (s1.trans s2) r2 (p2.mono (rg_start s1.dom)) fun z hf => (nr z hf).mono (rg_start (c := .V) (H0 := R.H0) (H := H2) (wf := wf) s1.dom)
    | false => cases q; exact k _ Hs1 H1 s1 r1 (.bl false) fun _ _ => .bl false
  · rcases bnd_ex q with q | ⟨d1, env1, q1, q⟩
    · exact ha.exn r q k
    · rcases bnd_ex q with q | ⟨b, env2, q2, q⟩
      · exact (lift_ex q).elim
      · obtain ⟨qb, rfl⟩ := lift_ok q2
        cases asB_some qb
        refine ha.ok r q1 fun v Hs1 H1 s1 r1 p1 _ => ⟨b, p1.bl_inv, ?_⟩
        cases b with
        | true => exact hb.exn r1 q fun Hs2 H2 s2 r2 => k Hs2 H2 (s1.trans s2) r2
        | false => cases q
theorem se_one {op} {a : Expr} {ta : TE} {fa : M D} {pos : Pos} (h : SE X cf W c n a ta fa) : SE X cf W c n (.BoolOp op [a] pos) ta fa := ⟨pe_one h.p, h.s⟩
theorem se_and {a b : Expr} {rest : List Expr} {ta tb : TE} {fa fb : M D} {pos : Pos} (h : SE X cf W c n1 a ta fa) (h2 : SE X cf W c n2 (.BoolOp .And (b :: rest) pos) tb fb) : SE X cf W c n2 (.BoolOp .And (a :: b :: rest) pos) (tAndV ta tb) (eAndV fa fb) := ⟨pe_and h.p h2.p, sd_andV h.s h2.s⟩
theorem se_cb {id : String} {r : List V → Hp → VK → Prop} {g : List D → Option D} {x : Str} {e : Expr} {es : List Expr} {ta : TA} {fa : M (List D)} {p pos : Pos} (hc : CallR X (.builtin id) r) (hs : SndN cf.K n r g) (hg : Gl X x) (hm : X.mg x = none) (hv : bootBuiltins x = some (.builtin id)) (ha : SA X cf W c (e :: es) ta fa)
    (hn : x ≠ "__name__" := by decide) (hdb : (x == ("__debug__" : Str)) = false := by decide) (he : starEach (e :: es) X.env = (false, eval e X.env) :: starEach es X.env := by rfl) (hpl : (backTo pos (starEach es X.env)).any (·.1) = false := by rfl) :
    SE X cf W c n (.Call (.Name x p) (e :: es) [] pos) (tCB r ta) (eN g fa) := ⟨pe_callB hc hg hm hv ha.p hn hdb he hpl, sd_opN hs ha.s⟩
theorem se_ct {T : String} {r : List V → Hp → VK → Prop} {g : List D → Option D} {x : Str} {e : Expr} {es : List Expr} {ta : TA} {fa : M (List D)} {p pos : Pos} (hc : CallR X (.type T) r) (hs : SndN cf.K n r g) (hg : Gl X x) (hm : X.mg x = none) (hv : bootBuiltins x = some (.type T)) (ha : SA X cf W c (e :: es) ta fa)
    (hn : x ≠ "__name__" := by decide) (hdb : (x == ("__debug__" : Str)) = false := by decide) (he : starEach (e :: es) X.env = (false, eval e X.env) :: starEach es X.env := by rfl) (hpl : (backTo pos (starEach es X.env)).any (·.1) = false := by rfl) :
    SE X cf W c n (.Call (.Name x p) (e :: es) [] pos) (tCB r ta) (eN g fa) := ⟨pe_callTy hc hg hm hv ha.p hn hdb he hpl, sd_opN hs ha.s⟩
end
end MV
namespace MV
open PySem L2
abbrev LIM : Nat := 100000
theorem lim_sz {n : Nat} (h : n ≤ LIM) : n ≤ sizeLine := Nat.le_trans h (by decide)
theorem lim_lt {n : Nat} (h : n < LIM) : n < sizeLine := Nat.lt_of_lt_of_le h (by decide)
section
variable {K : PySem.W.Frag} {G H : Hp} {n : Bool} {d : D} {v : V} {Q : VK}
theorem k_sc (k : ∀ v H', Ex H H' → Rp K true (grow G H H') v d → Nn K n H H' v d → Q v H') (h : d.toV = some v) : Q v H := k v H (Ex.refl H) (.sc h) fun _ _ => .sc h
end
def gI2 (f : Int → Int → Option D) : D → D → Option D
  | .int i, .int j => f i j
  | _, _ => none
theorem gI2_some {f : Int → Int → Option D} {x y d : D} (h : gI2 f x y = some d) : ∃ i j, x = .int i ∧ y = .int j ∧ f i j = some d := by
  unfold gI2 at h
  split at h
  · exact ⟨_, _, rfl, rfl, h⟩
  · cases h
theorem snd_rI {K : PySem.W.Frag} {C : Int → Int → Prop} [∀ i j, Decidable (C i j)] {g : Int → Int → V} {g' : Int → Int → D} (hg : ∀ i j, (g' i j).toV = some (g i j)) : Snd2 K true (rI C g) (gI2 fun i j => if C i j then some (g' i j) else none) := fun G H x y d1 d2 d e h1 h2 q Q k => by
  obtain ⟨i, j, rfl, rfl, qq⟩ := gI2_some q
  split at qq
  · cases qq
    rename_i hc
    exact ⟨i, j, h1.int_inv, h2.int_inv, hc, k_sc k (hg i j)⟩
  · cases qq
theorem snd_rI0 {K : PySem.W.Frag} {g : Int → Int → V} {g' : Int → Int → D} (hg : ∀ i j, (g' i j).toV = some (g i j)) : Snd2 K true (rI0 g) (gI2 fun i j => some (g' i j)) := fun G H x y d1 d2 d e h1 h2 q Q k => by
  obtain ⟨i, j, rfl, rfl, qq⟩ := gI2_some q
  cases qq
  exact ⟨i, j, h1.int_inv, h2.int_inv, k_sc k (hg i j)⟩
instance {i j : Int} : Decidable (CDiv i j) := by unfold CDiv; infer_instance
instance {i j : Int} : Decidable (CPow i j) := by unfold CPow; infer_instance
instance {i j : Int} : Decidable (CMul i j) := by unfold CMul; infer_instance
def gSub := gI2 fun i j => some (.int (i - j))
def divW (j : Int) : Bool := decide (0 < j) && decide (j.natAbs.log2 < 9000)
def gFdiv := gI2 fun i j => if CDiv i j ∨ divW j = true then some (.int (i / j)) else none
def gMod := gI2 fun i j => if 0 < j then some (.int (i % j)) else none
def gPow := gI2 fun i j => if CPow i j then some (.int (i ^ j.toNat)) else none
def gShr := gI2 fun i j => if 0 ≤ j then some (.int (i / 2 ^ j.toNat)) else none
def gShl := gI2 fun i j => if CPow i j then some (.int (i * 2 ^ j.toNat)) else none
def gLt := gI2 fun i j => some (.bl (decide (i < j)))
def gLe := gI2 fun i j => some (.bl (decide (i ≤ j)))
def gGt := gI2 fun i j => some (.bl (decide (j < i)))
def gGe := gI2 fun i j => some (.bl (decide (j ≤ i)))
section
variable {K : PySem.W.Frag}
theorem snd_sub : Snd2 K true (rI0 fun i j => .int (i - j)) gSub := snd_rI0 fun _ _ => rfl
def rFdiv : R2 := fun x y H Q => rI CDiv (fun i j => .int (i / j)) x y H Q ∨ rI CDivW (fun i j => .int (i / j)) x y H Q
theorem snd_fdiv : Snd2 K true rFdiv gFdiv := fun G H x y d1 d2 d e h1 h2 q Q k => by
  obtain ⟨i, j, rfl, rfl, qq⟩ := gI2_some q
  split at qq
  · cases qq
    rename_i hc
    rcases hc with hc | hc
    · exact .inl ⟨i, j, h1.int_inv, h2.int_inv, hc, k_sc k rfl⟩
    · unfold divW at hc
      rw [Bool.and_eq_true] at hc
      exact .inr ⟨i, j, h1.int_inv, h2.int_inv, ⟨of_decide_eq_true hc.1, of_decide_eq_true hc.2⟩, k_sc k rfl⟩
  · cases qq
theorem snd_mod : Snd2 K true (rI (fun _ j => 0 < j) fun i j => .int (i % j)) gMod := snd_rI (C := fun _ j => 0 < j) fun _ _ => rfl
theorem snd_pow : Snd2 K true (rI CPow fun i j => .int (i ^ j.toNat)) gPow := snd_rI fun _ _ => rfl
theorem snd_lt : Snd2 K true (rI0 fun i j => .bl (decide (i < j))) gLt := snd_rI0 fun _ _ => rfl
theorem snd_le : Snd2 K true (rI0 fun i j => .bl (decide (i ≤ j))) gLe := snd_rI0 fun _ _ => rfl
theorem snd_gt : Snd2 K true (rI0 fun i j => .bl (decide (j < i))) gGt := snd_rI0 fun _ _ => rfl
theorem snd_ge : Snd2 K true (rI0 fun i j => .bl (decide (j ≤ i))) gGe := snd_rI0 fun _ _ => rfl
end
theorem gI2_sc {f : Int → Int → Option D} (hf : ∀ i j d, f i j = some d → d.sc = true) {a b : M D} : ScF (e2 (gI2 f) a b) := fun env d env' q => by
  obtain ⟨d1, env1, q1, q⟩ := bnd_ok q
  obtain ⟨d2, env2, q2, q⟩ := bnd_ok q
  obtain ⟨qg, rfl⟩ := lift_ok q
  obtain ⟨i, j, _, _, q⟩ := gI2_some qg
  exact hf i j d q
theorem e2_sc {g : D → D → Option D} (hg : ∀ x y d, g x y = some d → d.sc = true) {a b : M D} : ScF (e2 g a b) := fun env d env' q => by
  obtain ⟨d1, env1, q1, q⟩ := bnd_ok q
  obtain ⟨d2, env2, q2, q⟩ := bnd_ok q
  obtain ⟨qg, rfl⟩ := lift_ok q
  exact hg _ _ _ qg
theorem e1_sc {g : D → Option D} (hg : ∀ x d, g x = some d → d.sc = true) {a : M D} : ScF (e1 g a) := fun env d env' q => by
  obtain ⟨d1, env1, q1, q⟩ := bnd_ok q
  obtain ⟨qg, rfl⟩ := lift_ok q
  exact hg _ _ qg
theorem eN_sc {g : List D → Option D} (hg : ∀ x d, g x = some d → d.sc = true) {a : M (List D)} : ScF (eN g a) := fun env d env' q => by
  obtain ⟨d1, env1, q1, q⟩ := bnd_ok q
  obtain ⟨qg, rfl⟩ := lift_ok q
  exact hg _ _ qg
def gAdd : D → D → Option D
  | .int i, .int j => some (.int (i + j))
  | .str a, .str b => if a.length + b.length ≤ LIM then some (.str (a ++ b)) else none
  | .lst a, .lst b => if a.length + b.length ≤ LIM then some (.lst (a ++ b)) else none
  | _, _ => none
def rAdd3 : R2 := fun x y H Q => rI0 (fun i j => .int (i + j)) x y H Q ∨ (∃ i j, x = .str i ∧ y = .str j ∧ i.length + j.length ≤ sizeLine ∧ Q (.str (i ++ j)) H) ∨ rCat x y H Q
theorem op_add3 {X : Cx} : OpR X (binaryOp .Add) rAdd3 := op_add.or (op_add_str.or op_cat)
theorem snd_add {K : PySem.W.Frag} : Snd2 K true rAdd3 gAdd := fun G H x y d1 d2 d e h1 h2 q Q k => by
  unfold gAdd at q
  split at q
  · cases q; exact .inl ⟨_, _, h1.int_inv, h2.int_inv, k_sc k rfl⟩
  · split at q
    · cases q
      rename_i hl
      exact .inr (.inl ⟨_, _, h1.str_inv, h2.str_inv, lim_sz hl, k_sc k rfl⟩)
    · cases q
  · split at q
    · cases q
      rename_i hl
      obtain ⟨a, xs, rfl, s1, r1⟩ := h1.lst_inv
      obtain ⟨b, ys, rfl, s2, r2⟩ := h2.lst_inv
      refine .inr (.inr ⟨a, b, xs, ys, rfl, rfl, e _ _ s1, e _ _ s2, by rw [r1.length, r2.length]; exact lim_sz hl, fun p hp => k _ _ (Ex.new hp) (new_rp e hp (r1.append r2)) (new_nn hp (r1.append r2))⟩)
    · cases q
  · cases q
theorem RpL.rep {K : PySem.W.Frag} {x : Bool} {G : Hp} {vs : List V} {ds : List D} (h : RpL K x G vs ds) : ∀ k : Nat, RpL K x G (List.replicate k vs).flatten (List.replicate k ds).flatten
  | 0 => .nil
  | k + 1 => by
    rw [List.replicate_succ, List.replicate_succ, List.flatten_cons, List.flatten_cons]
    exact h.append (RpL.rep h k)
def repS (z : Str) (n : Nat) : Str := ⟨(List.replicate n z.cps.toList).flatten.toArray⟩
theorem foldl_cps (a : Array Nat) : ∀ (n : Nat) (b : Array Nat), ((List.replicate n a).foldl (· ++ ·) b) = b ++ (List.replicate n a.toList).flatten.toArray
  | 0, b => by simp
  | n + 1, b => by
    rw [List.replicate_succ, List.foldl_cons, foldl_cps a n, List.replicate_succ, List.flatten_cons]
    apply Array.ext'
    simp
def rSRep : R2 := fun x y H Q => ∃ (z : Str) (k : Int), x = .str z ∧ y = .int k ∧ -(2 ^ 63) ≤ k ∧ k < 2 ^ 31 ∧ z.length * k.toNat ≤ LIM ∧ Q (.str (repS z k.toNat)) H
theorem op_srep {X : Cx} : OpR X (binaryOp .Mult) rSRep := by
  intro pp s σ H x y v u Q I rx ry h
  obtain ⟨z, k, rfl, rfl, h1, h2, h3, q⟩ := h
  obtain ⟨t, rfl⟩ := rx
  obtain ⟨t', rfl⟩ := ry
  have hL : (LIM : Nat) = 100000 := rfl
  refine PySem.P.mul_str ?_ (fun hn _ => ?_) (fun hn _ => ?_) ?_
  · rw [decide_eq_false (by omega), decide_eq_false (by omega)]; rfl
  · have hk : (k.toNat : Int) = k := Int.toNat_of_nonneg (by omega)
    have : (z.length : Int) ≤ (2 ^ 63 - 1) / k := by
      apply Int.le_ediv_of_mul_le (by omega)
      rw [← hk]
      have : ((z.length * k.toNat : Nat) : Int) ≤ 100000 := by omega
      rw [Int.natCast_mul] at this
      omega
    omega
  · unfold PySem.Builtin.Str.tooLong
    exact decide_eq_false (by have : (100000 : Nat) ≤ sizeLine := by decide
                              omega)
  · split
    · rename_i hn
      have e : k.toNat = 0 := by omega
      rw [e] at q
      exact ⟨by decide, .str (repS z 0), H, I.tok _, ⟨_, rfl⟩, q⟩
    · rename_i hn
      split
      · rename_i hc
        rw [Bool.or_eq_true] at hc
        have e : repS z k.toNat = z := by
          rcases hc with hc | hc
          · have : k = 1 := by simpa using hc
            subst this
            unfold repS
            show (⟨([z.cps.toList] : List (List Nat)).flatten.toArray⟩ : Str) = z
            simp
          · have h0 : z.cps.toList = [] := by
              have : z.length = 0 := by simpa using hc
              apply List.eq_nil_of_length_eq_zero
              rw [Array.length_toList]; exact this
            unfold repS
            rw [h0]
            have : ∀ n : Nat, (List.replicate n ([] : List Nat)).flatten = [] := fun n => by simp
            rw [this]
            obtain ⟨⟨l⟩⟩ := z
            simp at h0
            rw [h0]
        rw [e] at q
        exact ⟨.str z, H, I, ⟨_, rfl⟩, q⟩
      · have e : (⟨(List.replicate k.toNat z.cps).foldl (· ++ ·) #[]⟩ : Str) = repS z k.toNat := by
          unfold repS
          rw [foldl_cps]
          simp
        rw [e]
        refine ⟨?_, .str (repS z k.toNat), H, I.tok _, ⟨_, rfl⟩, q⟩
        show (repS z k.toNat).cps.size ≤ sizeLine
        unfold repS
        rw [List.size_toArray, List.length_flatten, List.map_replicate, List.sum_replicate_nat, Array.length_toList]
        have hz : z.cps.size = z.length := rfl
        have : (100000 : Nat) ≤ sizeLine := by decide
        rw [hz, Nat.mul_comm]
        omega
def mulOk (i j : Int) : Bool := decide (CMul i j) || decide (i.natAbs.log2 + j.natAbs.log2 < 1000000)
def gMul : D → D → Option D
  | .int i, .int j => if mulOk i j then some (.int (i * j)) else none
  | .lst a, .int k => if a.length * k.toNat ≤ LIM ∧ -(2 ^ 63) ≤ k ∧ k < 2 ^ 63 then some (.lst (List.replicate k.toNat a).flatten) else none
  | .str z, .int k => if z.length * k.toNat ≤ LIM ∧ -(2 ^ 63) ≤ k ∧ k < 2 ^ 31 then some (.str (repS z k.toNat)) else none
  | _, _ => none
def rMul2 : R2 := fun x y H Q => rSRep x y H Q ∨ (rI CMul (fun i j => .int (i * j)) x y H Q ∨ rI CMulW (fun i j => .int (i * j)) x y H Q) ∨ rRep x y H Q
theorem op_mul2 {X : Cx} : OpR X (binaryOp .Mult) rMul2 := op_srep.or ((op_mul.or op_mulW).or op_rep)
theorem snd_mul {K : PySem.W.Frag} : Snd2 K true rMul2 gMul := fun G H x y d1 d2 d e h1 h2 q Q k => by
  unfold gMul at q
  split at q
  · split at q
    · cases q
      rename_i hc
      rcases Bool.or_eq_true_iff.mp hc with hc | hc
      · exact .inr (.inl (.inl ⟨_, _, h1.int_inv, h2.int_inv, of_decide_eq_true hc, k_sc k rfl⟩))
      · exact .inr (.inl (.inr ⟨_, _, h1.int_inv, h2.int_inv, (by unfold CMulW; exact of_decide_eq_true hc), k_sc k rfl⟩))
    · cases q
  · split at q
    · cases q
      rename_i hc
      obtain ⟨hc, hk1, hk2⟩ := hc
      obtain ⟨a, xs, rfl, s1, r1⟩ := h1.lst_inv
      refine .inr (.inr ⟨a, _, xs, rfl, h2.int_inv, e _ _ s1, hk1, hk2, by rw [r1.length]; exact lim_sz hc, fun p hp => k _ _ (Ex.new hp) (new_rp e hp (r1.rep _)) (new_nn hp (r1.rep _))⟩)
    · cases q
  · split at q
    · cases q
      rename_i hc
      obtain ⟨hc, hk1, hk2⟩ := hc
      exact .inl ⟨_, _, h1.str_inv, h2.int_inv, hk1, hk2, hc, k_sc k rfl⟩
    · cases q
  · cases q
def gNeg : D → Option D
  | .int i => some (.int (-i))
  | _ => none
theorem snd_neg {K : PySem.W.Frag} : Snd1 K true (rU fun i => .int (-i)) gNeg := fun G H x d1 d e h1 q Q k => by
  unfold gNeg at q
  split at q
  · cases q; exact ⟨_, h1.int_inv, k_sc k rfl⟩
  · cases q
mutual
def D.toP : D → Option PyData
  | .non => some .none
  | .bl b => some (.bool b)
  | .int i => some (.int i)
  | .str x => some (.str x)
  | .lst xs => (toPs xs).map .list
  | .tup xs => (toPs xs).map .tuple
  | _ => none
def toPs : List D → Option (List PyData)
  | [] => some []
  | x :: xs => match D.toP x, toPs xs with
    | some a, some b => some (a :: b)
    | _, _ => none
end
mutual
theorem Rp.dp {K : PySem.W.Frag} {G H : Hp} (e : Ex G H) : ∀ {v : V} {d : D} {p : PyData}, Rp K true G v d → d.toP = some p → Dp K H v p
  | _, .non, _, h, q => by cases q; rw [h.non_inv]; exact .non
  | _, .bl b, _, h, q => by cases q; rw [h.bl_inv]; exact .bl b
  | _, .int i, _, h, q => by cases q; rw [h.int_inv]; exact .int i
  | _, .str x, _, h, q => by cases q; rw [h.str_inv]; exact .str x
  | _, .lst ds, p, h, q => by
    cases h with
    | sc z => cases z
    | lst s r =>
      rw [D.toP] at q
      cases z : toPs ds with
      | none => rw [z] at q; cases q
      | some ps =>
        rw [z] at q
        cases q
        exact .lst (.inl (.inl (e _ _ s))) (RpL.dp e r z)
  | _, .tup ds, p, h, q => by
    cases h with
    | sc z => cases z
    | tup s r =>
      rw [D.toP] at q
      cases z : toPs ds with
      | none => rw [z] at q; cases q
      | some ps =>
        rw [z] at q
        cases q
        exact .tup (.inl (.inl (e _ _ s))) (RpL.dp e r z)
  | _, .dic _, _, _, q => by rw [D.toP] at q <;> first | cases q | (intros; rintro ⟨⟩)
  | _, .dit _, _, _, q => by rw [D.toP] at q <;> first | cases q | (intros; rintro ⟨⟩)
  | _, .exc _, _, _, q => by rw [D.toP] at q <;> first | cases q | (intros; rintro ⟨⟩)
theorem RpL.dp {K : PySem.W.Frag} {G H : Hp} (e : Ex G H) : ∀ {vs : List V} {ds : List D} {ps : List PyData}, RpL K true G vs ds → toPs ds = some ps → DpAll K H vs ps
  | _, _, _, .nil, q => by rw [toPs] at q; cases q; exact .nil
  | _, d :: ds, ps, .cons h r, q => by
    rw [toPs] at q
    cases z1 : D.toP d with
    | none => rw [z1] at q; cases q
    | some a =>
      cases z2 : toPs ds with
      | none => rw [z1, z2] at q; cases q
      | some b =>
        rw [z1, z2] at q
        cases q
        exact .cons (Rp.dp e h z1) (RpL.dp e r z2)
end
def deq (a b : D) : Option Bool := match a, b with
  | .int i, .int j => some (decide (i = j))
  | .str x, .str y => some (decide (x = y))
  | a, b => match a.toP, b.toP with
    | some p, some q => if SeqAt.shaped p && SeqAt.shaped q then some (PyData.eqv p q) else none
    | _, _ => none
def gEq (a b : D) : Option D := (deq a b).map .bl
def gNe (a b : D) : Option D := (deq a b).map fun k => .bl (!k)
def rEq2 (K : PySem.W.Frag) : R2 := fun x y H Q => rEq x y H Q ∨ rEqD K x y H Q
def rNe2 (K : PySem.W.Frag) : R2 := fun x y H Q => rNe x y H Q ∨ rNeD K x y H Q
theorem op_eq2 {X : Cx} (hu : X.A.units + 64 < cLine) : OpR X (compareOp .Eq) (rEq2 X.K) := op_eq.or (op_eqD hu)
theorem op_ne2 {X : Cx} (hu : X.A.units + 64 < cLine) : OpR X (compareOp .NotEq) (rNe2 X.K) := op_ne.or (op_neD hu)
theorem deq_cases {K : PySem.W.Frag} {G H : Hp} {x y : V} {a b : D} {k : Bool} (e : Ex G H) (h1 : Rp K true G x a) (h2 : Rp K true G y b) (q : deq a b = some k) :
    (scal x y = true ∧ decide (x = y) = k) ∨ ∃ p p', Dp K H x p ∧ Dp K H y p' ∧ SeqAt.shaped p = true ∧ SeqAt.shaped p' = true ∧ PyData.eqv p p' = k := by
  unfold deq at q
  split at q
  · cases q
    rw [h1.int_inv, h2.int_inv]
    refine .inl ⟨rfl, ?_⟩
    rw [Bool.eq_iff_iff]; simp
  · cases q
    rw [h1.str_inv, h2.str_inv]
    refine .inl ⟨rfl, ?_⟩
    rw [Bool.eq_iff_iff]; simp
  · split at q
    · split at q
      · cases q
        rename_i p p' z1 z2 hs
        rw [Bool.and_eq_true] at hs
        exact .inr ⟨p, p', h1.dp e z1, h2.dp e z2, hs.1, hs.2, rfl⟩
      · cases q
    · cases q
theorem snd_eq {K : PySem.W.Frag} : Snd2 K true (rEq2 K) gEq := fun G H x y d1 d2 d e h1 h2 q Q k => by
  unfold gEq at q
  cases z : deq d1 d2 with
  | none => rw [z] at q; cases q
  | some b =>
    rw [z] at q
    cases q
    rcases deq_cases e h1 h2 z with ⟨s, t⟩ | ⟨p, p', a1, a2, a3, a4, t⟩
    · exact .inl ⟨s, by rw [t]; exact k_sc k rfl⟩
    · exact .inr ⟨p, p', a1, a2, a3, a4, by rw [t]; exact k_sc k rfl⟩
theorem snd_ne {K : PySem.W.Frag} : Snd2 K true (rNe2 K) gNe := fun G H x y d1 d2 d e h1 h2 q Q k => by
  unfold gNe at q
  cases z : deq d1 d2 with
  | none => rw [z] at q; cases q
  | some b =>
    rw [z] at q
    cases q
    rcases deq_cases e h1 h2 z with ⟨s, t⟩ | ⟨p, p', a1, a2, a3, a4, t⟩
    · exact .inl ⟨s, by rw [t]; exact k_sc k rfl⟩
    · exact .inr ⟨p, p', a1, a2, a3, a4, by rw [t]; exact k_sc k rfl⟩
theorem atI_rp {K : PySem.W.Frag} {x : Bool} {G : Hp} {xs : List V} {ds : List D} {i : Int} {d : D} (h : RpL K x G xs ds) (q : atI ds i = some d) : ∃ v, atI xs i = some v ∧ Rp K x G v d := by
  unfold atI at q ⊢
  rw [h.length]
  cases z : ixN ds.length i with
  | none => rw [z] at q; cases q
  | some j =>
    rw [z] at q
    exact h.get q
def gIx : D → D → Option D
  | .lst ds, .int i => atI ds i
  | .tup ds, .int i => atI ds i
  | .str z, .int i => if z.length ≤ LIM then (atI z.cps.toList i).map fun c => .str ⟨#[c]⟩ else none
  | _, _ => none
theorem snd_ix {K : PySem.W.Frag} : Snd2 K false (rIx K) gIx := fun G H x y d1 d2 d e h1 h2 q Q k => by
  unfold gIx at q
  split at q
  · obtain ⟨a, xs, rfl, s1, r1⟩ := h1.lst_inv
    obtain ⟨v, hv, hr⟩ := atI_rp r1 q
    exact .inl ⟨a, xs, _, v, rfl, h2.int_inv, .inl (.inl (e _ _ s1)), hv, k v H (Ex.refl H) (hr.mono (Ex.grow e (Ex.refl H))) fun z => by cases z⟩
  · obtain ⟨a, xs, rfl, s1, r1⟩ := h1.tup_inv
    obtain ⟨v, hv, hr⟩ := atI_rp r1 q
    exact .inr (.inl ⟨a, xs, _, v, rfl, h2.int_inv, .inl (.inl (e _ _ s1)), hv, k v H (Ex.refl H) (hr.mono (Ex.grow e (Ex.refl H))) fun z => by cases z⟩)
  · split at q
    · rename_i z i hl
      cases zz : atI z.cps.toList i with
      | none => rw [zz] at q; cases q
      | some c =>
        rw [zz] at q
        cases q
        exact .inr (.inr ⟨_, _, c, h1.str_inv, h2.int_inv, lim_sz hl, zz, k_sc k rfl⟩)
    · cases q
  · cases q
theorem se_ix {X : Cx} {cf : Cf} {W : WX} {c : Cls} {n1 n2 : Bool} {a b : Expr} {ta tb : TE} {fa fb : M D} {pos : Pos} (hK : cf.K = X.K) (ha : SE X cf W c n1 a ta fa) (hb : SE X cf W c n2 b tb fb) (hs : PlainIx b) : SE X cf W c false (.Subscript a b pos) (tOp (rIx cf.K) ta tb) (e2 gIx fa fb) := by
  refine ⟨?_, sd_op2 snd_ix ha.s hb.s⟩
  rw [hK]
  exact pe_ix ix_seq ha.p hb.p hs
def asI : D → Option (Option Int)
  | .int i => some (some i)
  | _ => none
def oNone : M (Option Int) := ret none
def oSome (f : M D) : M (Option Int) := bnd f fun d => lift (asI d)
def cutA {α : Type} (xs : List α) (lo hi : Option Int) : List α := (xs.drop (HT.sIx xs.length 0 lo)).take (HT.sIx xs.length xs.length hi - HT.sIx xs.length 0 lo)
def gSl : D → Option Int → Option Int → Option D
  | .lst ds, l, h => some (.lst (cutA ds l h))
  | .str z, l, h => if z.length ≤ LIM then some (.str (cutS z l h)) else none
  | _, _, _ => none
def eSl (f : M D) (lo hi : M (Option Int)) : M D := bnd f fun x => bnd lo fun l => bnd hi fun h => lift (gSl x l h)
def SdO (cf : Cf) (W : WX) (to : TO) (f : M (Option Int)) : Prop :=
  ∀ (R : Rs) (Hs : Hp) (env : PEnv) (σ : L2.St) (H : Hp) (F : Nat → List Addr) (wf : List Addr), Rel cf R Hs env σ H F wf → ∀ Q : Option Int → Hp → Prop,
    match f env with
    | .ok o env' => (∀ Hs' H', Stp cf wf env Hs H env' Hs' H' → Rel cf R Hs' env' σ H' F wf → Q o H') → to σ H Q
    | .ex x env' => (∀ Hs' H', Stp cf wf env Hs H env' Hs' H' → Rel cf R Hs' env' σ H' F wf → W (cf.cv x) none σ H') → to σ H Q
    | .stuck => True
structure SO (X : Cx) (cf : Cf) (W : WX) (e : Option Expr) (t : TO) (f : M (Option Int)) : Prop where
  p : PO X e t
  s : SdO cf W t f
section
variable {X : Cx} {cf : Cf} {W : WX} {c : Cls} {n n1 n2 : Bool}
theorem so_none : SO X cf W none tNoPart oNone := ⟨po_none, fun R Hs env σ H F wf r Q k => k Hs H Stp.refl r⟩
theorem so_some {e : Expr} {te : TE} {f : M D} (h : SE X cf W c n e te f) : SO X cf W (some e) (tPart te) (oSome f) := by
  obtain ⟨p, s⟩ := h
  refine ⟨po_some p, fun R Hs env σ H F wf r Q => ?_⟩
  cases q : oSome f env with
  | ok o env' =>
    intro k
    obtain ⟨d, env1, q1, q⟩ := bnd_ok q
    obtain ⟨qg, rfl⟩ := lift_ok q
    unfold asI at qg
    split at qg
    · cases qg
      exact s.ok r q1 fun v Hs1 H1 s1 r1 p1 _ => ⟨_, p1.int_inv, k Hs1 H1 s1 r1⟩
    · cases qg
  | ex x env' =>
    intro k
    rcases bnd_ex q with q | ⟨d1, env1, q1, q⟩
    · exact s.exn r q k
    · exact (lift_ex q).elim
  | stuck => trivial
theorem SdO.ok {to : TO} {f : M (Option Int)} {R : Rs} {Hs : Hp} {env env' : PEnv} {σ : L2.St} {H : Hp} {F : Nat → List Addr} {wf : List Addr} (s : SdO cf W to f) (r : Rel cf R Hs env σ H F wf) {d : Option Int} (q : f env = .ok d env') {Q : Option Int → Hp → Prop} (k : ∀ Hs' H', Stp cf wf env Hs H env' Hs' H' → Rel cf R Hs' env' σ H' F wf → Q d H') : to σ H Q := by
  have h := s R Hs env σ H F wf r Q
  rw [q] at h
  exact h k
theorem SdO.exn {to : TO} {f : M (Option Int)} {R : Rs} {Hs : Hp} {env env' : PEnv} {σ : L2.St} {H : Hp} {F : Nat → List Addr} {wf : List Addr} (s : SdO cf W to f) (r : Rel cf R Hs env σ H F wf) {x : Str} (q : f env = .ex x env') {Q : Option Int → Hp → Prop} (k : ∀ Hs' H', Stp cf wf env Hs H env' Hs' H' → Rel cf R Hs' env' σ H' F wf → W (cf.cv x) none σ H') : to σ H Q := by
  have h := s R Hs env σ H F wf r Q
  rw [q] at h
  exact h k
theorem cutV_rp {K : PySem.W.Frag} {x : Bool} {G : Hp} {xs : List V} {ds : List D} (h : RpL K x G xs ds) (lo hi : Option Int) : RpL K x G (cutV xs lo hi) (cutA ds lo hi) := by
  unfold cutV cutA
  rw [h.length]
  exact (h.drop _).take _
def rSl2 (K : PySem.W.Frag) : V → Option Int → Option Int → Hp → VK → Prop := fun x lo hi H Q => rSlL K x lo hi H Q ∨ rSlS x lo hi H Q
theorem snd_sl {K : PySem.W.Frag} {G H : Hp} {x : V} {d1 d : D} {l h : Option Int} (e : Ex G H) (h1 : Rp K true G x d1) (q : gSl d1 l h = some d) (Q : VK) (k : ∀ v H', Ex H H' → Rp K true (grow G H H') v d → Nn K true H H' v d → Q v H') : rSl2 K x l h H Q := by
  unfold gSl at q
  split at q
  · cases q
    obtain ⟨a, xs, rfl, s1, r1⟩ := h1.lst_inv
    exact .inl ⟨a, xs, rfl, .inl (.inl (e _ _ s1)), fun p hp => k _ _ (Ex.new hp) (new_rp e hp (cutV_rp r1 _ _)) (new_nn hp (cutV_rp r1 _ _))⟩
  · split at q
    · cases q
      rename_i hl
      exact .inr ⟨_, h1.str_inv, lim_sz hl, k_sc k rfl⟩
    · cases q
  · cases q
theorem se_sl {e : Expr} {lo hi : Option Expr} {te : TE} {tl th : TO} {f : M D} {fl fh : M (Option Int)} {p2 pos : Pos} (hK : cf.K = X.K) (h : SE X cf W c n1 e te f) (hl : SO X cf W lo tl fl) (hh : SO X cf W hi th fh) : SE X cf W c true (.Subscript e (.Slice lo hi none p2) pos) (tSl (rSl2 cf.K) te tl th) (eSl f fl fh) := by
  rw [hK]
  obtain ⟨p, s⟩ := h
  obtain ⟨p2, s2⟩ := hl
  obtain ⟨p3, s3⟩ := hh
  refine ⟨pe_slice (r := rSl2 X.K) (sl_list.or sl_str) p p2 p3, Sd.mk (fun R Hs env σ H F wf r d env' q Q k => ?_) (fun R Hs env σ H F wf r x env' q Q k => ?_)⟩
  · obtain ⟨d1, env1, q1, q⟩ := bnd_ok q
    obtain ⟨d2, env2, q2, q⟩ := bnd_ok q
    obtain ⟨d3, env3, q3, q⟩ := bnd_ok q
    obtain ⟨qg, rfl⟩ := lift_ok q
    exact s.ok r q1 fun v Hs1 H1 s1 r1 p1 _ => s2.ok r1 q2 fun Hs2 H2 s2 r2 => s3.ok r2 q3 fun Hs3 H3 s3 r3 => by
      show rSl2 X.K v d2 d3 H3 Q
      rw [← hK]
      exact snd_sl (rg_sub (H0 := R.H0) (Hst := H) (c := c) (wf := wf) r3.exs) ((p1.mono (rg_step s2)).mono (rg_step s3)) qg Q fun v4 H4 x p nn => fin_op ((s1.trans s2).trans s3) r3 x p nn k
  · rcases bnd_ex q with q | ⟨d1, env1, q1, q⟩
    · exact s.exn r q k
    · rcases bnd_ex q with q | ⟨d2, env2, q2, q⟩
      · exact s.ok r q1 fun v Hs1 H1 s1 r1 p1 _ => s2.exn r1 q fun Hs2 H2 s2 r2 => k Hs2 H2 (s1.trans s2) r2
      · rcases bnd_ex q with q | ⟨d3, env3, q3, q⟩
        · exact s.ok r q1 fun v Hs1 H1 s1 r1 p1 _ => s2.ok r1 q2 fun Hs2 H2 s2 r2 => s3.exn r2 q fun Hs3 H3 s3 r3 => k Hs3 H3 ((s1.trans s2).trans s3) r3
        · exact (lift_ex q).elim
def gRev : D → Option D
  | .lst ds => some (.lst ds.reverse)
  | _ => none
end
def gLen : List D → Option D
  | [.lst ds] => some (.int ds.length)
  | [.tup ds] => some (.int ds.length)
  | [.str z] => if z.length ≤ LIM then some (.int z.length) else none
  | _ => none
theorem RpL.one {K : PySem.W.Frag} {x : Bool} {G : Hp} {xs : List V} {d : D} (h : RpL K x G xs [d]) : ∃ v, xs = [v] ∧ Rp K x G v d := by
  cases h with
  | cons h r => cases r; exact ⟨_, rfl, h⟩
theorem RpL.two {K : PySem.W.Frag} {x : Bool} {G : Hp} {xs : List V} {d e : D} (h : RpL K x G xs [d, e]) : ∃ v w, xs = [v, w] ∧ Rp K x G v d ∧ Rp K x G w e := by
  cases h with
  | cons h r =>
    obtain ⟨w, rfl, h2⟩ := r.one
    exact ⟨_, w, rfl, h, h2⟩
theorem snd_len {K : PySem.W.Frag} : SndN K true (fun xs H Q => ∃ x n, xs = [x] ∧ LenV K x H n ∧ Q (.int n) H) gLen := fun G H xs ds d e h q Q k => by
  unfold gLen at q
  split at q
  · cases q
    obtain ⟨v, rfl, hq⟩ := h.one
    obtain ⟨a, xs, rfl, s1, r1⟩ := hq.lst_inv
    exact ⟨_, _, rfl, .inl ⟨xs, .inl (.inl (e _ _ s1)), rfl⟩, by rw [r1.length]; exact k_sc k rfl⟩
  · cases q
    obtain ⟨v, rfl, hq⟩ := h.one
    obtain ⟨a, xs, rfl, s1, r1⟩ := hq.tup_inv
    exact ⟨_, _, rfl, .inr ⟨xs, .inl (.inl (e _ _ s1)), rfl⟩, by rw [r1.length]; exact k_sc k rfl⟩
  · split at q
    · cases q
      rename_i hl
      obtain ⟨v, rfl, hq⟩ := h.one
      rw [hq.str_inv]
      exact ⟨_, _, rfl, ⟨lim_sz hl, rfl⟩, k_sc k rfl⟩
    · cases q
  · cases q
def gMax2 : List D → Option D
  | [.int i, .int j] => some (.int (if j > i then j else i))
  | _ => none
def gMin2 : List D → Option D
  | [.int i, .int j] => some (.int (if j < i then j else i))
  | _ => none
theorem snd_max2 {K : PySem.W.Frag} : SndN K true (fun xs H Q => ∃ i j, xs = [.int i, .int j] ∧ Q (.int (if j > i then j else i)) H) gMax2 := fun G H xs ds d e h q Q k => by
  unfold gMax2 at q
  split at q
  · cases q
    obtain ⟨v, w, rfl, h1, h2⟩ := h.two
    exact ⟨_, _, by rw [h1.int_inv, h2.int_inv], k_sc k rfl⟩
  · cases q
theorem snd_min2 {K : PySem.W.Frag} : SndN K true (fun xs H Q => ∃ i j, xs = [.int i, .int j] ∧ Q (.int (if j < i then j else i)) H) gMin2 := fun G H xs ds d e h q Q k => by
  unfold gMin2 at q
  split at q
  · cases q
    obtain ⟨v, w, rfl, h1, h2⟩ := h.two
    exact ⟨_, _, by rw [h1.int_inv, h2.int_inv], k_sc k rfl⟩
  · cases q
def gInt1 : List D → Option D
  | [.int i] => some (.int i)
  | [.bl b] => some (.int (if b then 1 else 0))
  | _ => none
theorem snd_int1 {K : PySem.W.Frag} : SndN K true (fun xs H Q => (∃ i, xs = [.int i] ∧ Q (.int i) H) ∨ ∃ k, xs = [.bl k] ∧ Q (.int (if k then 1 else 0)) H) gInt1 := fun G H xs ds d e h q Q k => by
  unfold gInt1 at q
  split at q
  · cases q
    obtain ⟨v, rfl, hq⟩ := h.one
    exact .inl ⟨_, by rw [hq.int_inv], k_sc k rfl⟩
  · cases q
    obtain ⟨v, rfl, hq⟩ := h.one
    exact .inr ⟨_, by rw [hq.bl_inv], k_sc k rfl⟩
  · cases q
def chV (z : Str) : List V := z.cps.toList.map fun c => V.str ⟨#[c]⟩
def chD (z : Str) : List D := z.cps.toList.map fun c => D.str ⟨#[c]⟩
theorem chs_rp {K : PySem.W.Frag} {x : Bool} {G : Hp} : ∀ l : List Nat, RpL K x G (l.map fun c => V.str ⟨#[c]⟩) (l.map fun c => D.str ⟨#[c]⟩)
  | [] => .nil
  | c :: l => .cons (.str _) (chs_rp l)
def rListS : List V → Hp → VK → Prop := fun xs H Q => ∃ z : Str, xs = [.str z] ∧ z.length ≤ LIM ∧ ∀ l, H l = none → Q (.ref l) (upd H l (.lst (chV z)))
theorem call_listS {X : Cx} (hc : X.calm = true) : CallR X (.type "list") rListS := by
  intro pp s σ H xs us Q I r h
  obtain ⟨z, rfl, hz, q⟩ := h
  obtain ⟨u, rfl, ru⟩ := r.one
  obtain ⟨t, rfl⟩ := ru
  have hsz : z.cps.size ≤ sizeLine := lim_sz hz
  refine PySem.call_list_str (I.ok.hd hc) z t (fun h' tk acc c' hk e hi => ?_) hsz
  have hl : acc.toList.length = z.cps.size := by rw [Array.length_toList]; exact hi.1
  have hv : Vals (chV z) acc.toList := by
    have e1 : chV z = (List.range acc.toList.length).map fun j => V.str ⟨#[z.cps.toList.getD j 0]⟩ := by
      unfold chV
      apply List.ext_getElem
      · rw [List.length_map, List.length_map, List.length_range, hl, Array.length_toList]
      · intro j h1 h2
        rw [List.length_map] at h1
        rw [List.getElem_map, List.getElem_map, List.getElem_range, List.getD_eq_getElem?_getD, List.getElem?_eq_getElem h1]
        rfl
    rw [e1]
    refine vals_of_get acc.toList _ fun j u hj => ?_
    obtain ⟨c, tu, h1, h2⟩ := hi.2 j u (by rw [← hj, Array.getElem?_toList])
    subst h2
    refine ⟨tu, ?_⟩
    have : z.cps.toList.getD j 0 = c := by
      rw [List.getD_eq_getElem?_getD, Array.getElem?_toList, h1]; rfl
    rw [this]
  refine ⟨.ref s.heap.objs.size, upd H s.heap.objs.size (.lst (chV z)), I.laid hk (Nat.le_refl _) (show ObjOk X.prog X.w _ _ _ (.lst (chV z)) from ⟨?_, acc.toList, c', hv, ?_⟩), rfl, q _ (I.hok.fresh (Nat.le_refl _))⟩
  · rw [hv.length, hl]; exact hsz
  · rw [Array.toArray_toList]; exact e
def gList1 : List D → Option D
  | [.lst ds] => some (.lst ds)
  | [.tup ds] => some (.lst ds)
  | [.str z] => if z.length ≤ LIM then some (.lst (chD z)) else none
  | _ => none
def rList1 (K : PySem.W.Frag) : List V → Hp → VK → Prop := fun xs H Q => (∃ p ys, xs = [.ref p] ∧ (SqL K H p ys ∨ SqT K H p ys) ∧ ∀ l, H l = none → Q (.ref l) (upd H l (.lst ys))) ∨ rListS xs H Q
theorem snd_list1 {K : PySem.W.Frag} : SndN K true (rList1 K) gList1 := fun G H xs ds d e h q Q k => by
  unfold gList1 at q
  split at q
  · cases q
    obtain ⟨v, rfl, hq⟩ := h.one
    obtain ⟨a, xs, rfl, s1, r1⟩ := hq.lst_inv
    exact .inl ⟨_, xs, rfl, .inl (.inl (.inl (e _ _ s1))), fun p hp => k _ _ (Ex.new hp) (new_rp e hp r1) (new_nn hp r1)⟩
  · cases q
    obtain ⟨v, rfl, hq⟩ := h.one
    obtain ⟨a, xs, rfl, s1, r1⟩ := hq.tup_inv
    exact .inl ⟨_, xs, rfl, .inr (.inl (.inl (e _ _ s1))), fun p hp => k _ _ (Ex.new hp) (new_rp e hp r1) (new_nn hp r1)⟩
  · split at q
    · cases q
      rename_i z hz
      obtain ⟨v, rfl, hq⟩ := h.one
      rw [hq.str_inv]
      exact .inr ⟨z, rfl, hz, fun p hp => k _ _ (Ex.new hp) (new_rp e hp (chs_rp _)) (new_nn (G := G) hp (chs_rp _))⟩
    · cases q
  · cases q
def asInts : List D → Option (List Int)
  | [] => some []
  | .int i :: r => (asInts r).map (i :: ·)
  | _ => none
def inD (x : D) (ds : List D) : Bool := match x.toV with
  | some v => inV v (ds.filterMap D.toV)
  | none => false
theorem toVs_rp {K : PySem.W.Frag} {x : Bool} {G : Hp} : ∀ {xs : List V} {ds : List D}, RpL K x G xs ds → ds.all D.sc = true → xs = ds.filterMap D.toV
  | _, _, .nil, _ => rfl
  | _, d :: ds, .cons h r, hs => by
    rw [List.all_cons, Bool.and_eq_true] at hs
    rw [List.filterMap_cons, h.toV hs.1, ← toVs_rp r hs.2]
theorem flatV_of {d : D} {v : V} (h : d.toV = some v) : flatV v = true := by
  cases d <;> cases h <;> rfl
theorem flatV_all {K : PySem.W.Frag} {x : Bool} {G : Hp} : ∀ {xs : List V} {ds : List D}, RpL K x G xs ds → ds.all D.sc = true → xs.all flatV = true
  | _, _, .nil, _ => rfl
  | _, d :: ds, .cons h r, hs => by
    rw [List.all_cons, Bool.and_eq_true] at hs
    rw [List.all_cons, flatV_of (h.toV hs.1), flatV_all r hs.2]; rfl
def inOk (a b : D) : Option Bool := match b with
  | .lst ds => if a.sc && ds.all D.sc then some (inD a ds) else none
  | .tup ds => if a.sc && ds.all D.sc then some (inD a ds) else none
  | .str z => match a with
    | .str ⟨⟨[c]⟩⟩ => some (decide (c ∈ z.cps.toList))
    | _ => none
  | _ => none
def gNotIn (a b : D) : Option D := (inOk a b).map fun k => .bl (!k)
def rNotIn2 (K : PySem.W.Frag) : R2 := fun x y H Q => rIn K true x y H Q ∨ ∃ (c : Nat) (z : Str), x = .str ⟨#[c]⟩ ∧ y = .str z ∧ Q (.bl (!decide (c ∈ z.cps.toList))) H
theorem op_notIn2 {X : Cx} : OpR X (compareOp .NotIn) (rNotIn2 X.K) := op_notIn_seq.or op_notIn_sign
theorem inOk_cases {K : PySem.W.Frag} {G H : Hp} {x y : V} {a b : D} {k : Bool} (e : Ex G H) (h1 : Rp K true G x a) (h2 : Rp K true G y b) (q : inOk a b = some k) :
    (∃ p xs, y = .ref p ∧ (SqL K H p xs ∨ SqT K H p xs) ∧ flatV x = true ∧ xs.all flatV = true ∧ inV x xs = k) ∨ ∃ (c : Nat) (z : Str), x = .str ⟨#[c]⟩ ∧ y = .str z ∧ decide (c ∈ z.cps.toList) = k := by
  unfold inOk at q
  split at q
  · split at q
    · rename_i hs
      rw [Bool.and_eq_true] at hs
      cases q
      obtain ⟨p, xs, rfl, s1, r1⟩ := h2.lst_inv
      refine .inl ⟨p, xs, rfl, .inl (.inl (.inl (e _ _ s1))), flatV_of (h1.toV hs.1), flatV_all r1 hs.2, ?_⟩
      unfold inD
      rw [h1.toV hs.1, toVs_rp r1 hs.2]
    · cases q
  · split at q
    · rename_i hs
      rw [Bool.and_eq_true] at hs
      cases q
      obtain ⟨p, xs, rfl, s1, r1⟩ := h2.tup_inv
      refine .inl ⟨p, xs, rfl, .inr (.inl (.inl (e _ _ s1))), flatV_of (h1.toV hs.1), flatV_all r1 hs.2, ?_⟩
      unfold inD
      rw [h1.toV hs.1, toVs_rp r1 hs.2]
    · cases q
  · split at q
    · cases q
      exact .inr ⟨_, _, h1.str_inv, h2.str_inv, rfl⟩
    · cases q
  · cases q
theorem snd_notIn {K : PySem.W.Frag} : Snd2 K true (rNotIn2 K) gNotIn := fun G H x y d1 d2 d e h1 h2 q Q k => by
  unfold gNotIn at q
  cases z : inOk d1 d2 with
  | none => rw [z] at q; cases q
  | some b =>
    rw [z] at q
    cases q
    rcases inOk_cases e h1 h2 z with ⟨p, xs, a1, a2, a3, a4, t⟩ | ⟨c, z, a1, a2, t⟩
    · exact .inl ⟨p, xs, a1, a2, a3, a4, by rw [if_pos rfl, t]; exact k_sc k rfl⟩
    · exact .inr ⟨c, z, a1, a2, by rw [t]; exact k_sc k rfl⟩
end MV
namespace MV
open PySem L2
section
variable {cf : Cf} {R : Rs} {Hs : Hp} {env : PEnv} {σ : L2.St} {H : Hp} {F : Nat → List Addr} {wf : List Addr}
theorem get_set {α : Type} {l : List α} {i j : Nat} {x y : α} (h : (l.set i x)[j]? = some y) : (i = j ∧ x = y ∧ i < l.length) ∨ (i ≠ j ∧ l[j]? = some y) := by
  by_cases e : i = j
  · subst e
    by_cases hl : i < l.length
    · rw [List.getElem?_set_self hl] at h; exact .inl ⟨rfl, Option.some.inj h, hl⟩
    · rw [List.getElem?_eq_none (by rw [List.length_set]; omega)] at h; cases h
  · rw [List.getElem?_set_ne e] at h; exact .inr ⟨e, h⟩
theorem Rel.put (r : Rel cf R Hs env σ H F wf) {i : Nat} {v : V} {d : D} (hw : cf.kd i ≠ .W) (hs : ∀ F', SlotR cf.K R Hs H F' (cf.kd i) v d) : Rel cf R Hs (env.set i (some d)) (σ.set i (some v)) H F wf where
  len := by rw [List.length_set, List.length_set]; exact r.len
  exs := r.exs
  ex0 := r.ex0
  dom0 := r.dom0
  slot := fun j d' h => by
    rcases get_set h with ⟨rfl, e, hl⟩ | ⟨ne, h⟩
    · cases e
      exact ⟨v, by rw [List.getElem?_set_self (by rw [← r.len]; exact hl)], hs _⟩
    · obtain ⟨w, h1, h2⟩ := r.slot j d' h
      exact ⟨w, by rw [List.getElem?_set_ne ne]; exact h1, h2⟩
  nod := r.nod
  dis := r.dis
  fdom := r.fdom
  uns := r.uns
  new := r.new
  volw := r.volw
  volb := r.volb
  wdom := r.wdom
  ior := fun p h => by
    obtain ⟨h1, h2, h3, d', h4⟩ := r.ior p h
    have ne : i ≠ 0 := fun e => by subst e; exact hw h3
    exact ⟨by rw [List.getElem?_set_ne ne]; exact h1, h2, h3, d', by rw [List.getElem?_set_ne ne]; exact h4⟩
theorem Rel.mut (r : Rel cf R Hs env σ H F wf) {i : Nat} {p : Addr} {o' : HO} {v : V} {d0 d' : D} (hp : p ∈ F i) (he : env[i]? = some (some d0)) (hv : σ[i]? = some (some v)) (hs : SlotR cf.K R Hs (upd H p o') (F i) (cf.kd i) v d') : Rel cf R Hs (env.set i (some d')) σ (upd H p o') F wf where
  len := by rw [List.length_set]; exact r.len
  exs := fun a o h => by
    rw [upd_ne (fun e => by subst e; rw [r.uns i _ hp] at h; cases h)]; exact r.exs a o h
  ex0 := r.ex0
  dom0 := fun a h => by
    by_cases e : a = p
    · subst e; rw [upd_same]; exact fun z => by cases z
    · rw [upd_ne e]; exact r.dom0 a h
  slot := fun j d h => by
    rcases get_set h with ⟨rfl, e, hl⟩ | ⟨ne, h⟩
    · cases e
      exact ⟨v, hv, hs⟩
    · obtain ⟨w, h1, h2⟩ := r.slot j d h
      refine ⟨w, h1, ?_⟩
      have np : ∀ a ∈ F j, ∀ o, H a = some o → upd H p o' a = some o := fun a m o h => by
        rw [upd_ne (fun e => by subst e; exact r.dis i j ne _ hp m)]; exact h
      cases q : cf.kd j with
      | S => rw [q] at h2; exact h2
      | N => rw [q] at h2; exact h2
      | Q => rw [q] at h2; exact h2
      | P => rw [q] at h2; exact Own.keep (Ex.refl _) h2 np
      | M => rw [q] at h2; exact ⟨Own.keep (Ex.refl _) h2.1 np, h2.2⟩
      | W =>
        rw [q] at h2
        obtain ⟨p2, xs, ds, e1, e2, e3, e4, e5⟩ := h2
        exact ⟨p2, xs, ds, e1, e2, e3, np p2 (by rw [e3]; exact List.mem_singleton.mpr rfl) _ e4, e5⟩
  nod := r.nod
  dis := r.dis
  fdom := fun j a h => by
    by_cases e : a = p
    · subst e; rw [upd_same]; exact fun z => by cases z
    · rw [upd_ne e]; exact r.fdom j a h
  uns := r.uns
  new := r.new
  volw := r.volw
  volb := r.volb
  wdom := fun a h => by
    obtain ⟨h1, h2⟩ := r.wdom a h
    refine ⟨?_, h2⟩
    by_cases e : a = p
    · subst e; rw [upd_same]; exact fun z => by cases z
    · rw [upd_ne e]; exact h1
  ior := fun p h => by
    obtain ⟨h1, h2, h3, d'', h4⟩ := r.ior p h
    refine ⟨h1, h2, h3, ?_⟩
    by_cases e : i = 0
    · subst e
      have hl : 0 < env.length := (List.getElem?_eq_some_iff.mp he).1
      exact ⟨d', by rw [List.getElem?_set_self hl]⟩
    · exact ⟨d'', by rw [List.getElem?_set_ne e]; exact h4⟩
theorem Rel.own {env1 : PEnv} {Hs1 H1 : Hp} (r : Rel cf R Hs env σ H F wf) (s1 : Stp cf wf env Hs H env1 Hs1 H1) (r1 : Rel cf R Hs1 env1 σ H1 F wf) {i : Nat} {v : V} {d : D} {Fn wf' : List Addr} (hio : R.io ≠ none → i ≠ 0)
    (hn : Fn.Nodup) (hnew : ∀ a ∈ Fn, H a = none ∧ H1 a ≠ none) (hwf : ∀ a, a ∈ wf' ↔ a ∈ wf ∨ (cf.kd i = .W ∧ a ∈ Fn))
    (hs : SlotR cf.K R (rm Hs1 Fn) H1 Fn (cf.kd i) v d) : Rel cf R (rm Hs1 Fn) (env1.set i (some d)) (σ.set i (some v)) H1 (fun j => if j = i then Fn else F j) wf' ∧ Ex Hs (rm Hs1 Fn) := by
  have old : ∀ a, H a ≠ none → a ∉ Fn := fun a h m => h (hnew a m).1
  have exs : Ex Hs (rm Hs1 Fn) := fun a o h => by
    have : a ∉ Fn := old a (by rw [r.exs a o h]; exact fun z => by cases z)
    unfold rm
    rw [if_neg this]
    exact s1.ex a o h
  have sub : Ex (rm Hs1 Fn) Hs1 := rm_sub _ _
  refine ⟨?_, exs⟩
  constructor
  case len => rw [List.length_set, List.length_set]; exact r1.len
  case exs => exact sub.trans r1.exs
  case ex0 => exact fun a o h n => exs a o (r.ex0 a o h n)
  case dom0 => exact r1.dom0
  case slot =>
    intro j d' h
    rcases get_set h with ⟨rfl, e, hl⟩ | ⟨ne, h⟩
    · cases e
      exact ⟨v, by rw [List.getElem?_set_self (by rw [← r1.len]; exact hl)], by rw [if_pos rfl]; exact hs⟩
    · obtain ⟨w, h1, h2⟩ := r1.slot j d' h
      refine ⟨w, by rw [List.getElem?_set_ne ne]; exact h1, ?_⟩
      rw [if_neg (Ne.symm ne)]
      by_cases hw : cf.kd j = .W
      · rw [hw] at h2 ⊢; exact h2
      · have h' : env[j]? = some (some d') := by rw [← s1.kp j hw]; exact h
        obtain ⟨w0, g1, g2⟩ := r.slot j d' h'
        have ew : w0 = w := by rw [g1] at h1; cases h1; rfl
        subst ew
        cases q : cf.kd j with
        | S => rw [q] at g2; exact Rp.mono exs g2
        | N => rw [q] at g2; exact Rp.mono (rs_mono exs) g2
        | Q => rw [q] at g2; exact Rp.mono exs g2
        | P => rw [q] at g2; exact Own.keep (Ex.refl _) g2 fun a m o ha => s1.keep a o (r.volb j hw a m) ha
        | M => rw [q] at g2; exact ⟨Own.keep (rs_mono exs) g2.1 fun a m o ha => s1.keep a o (r.volb j hw a m) ha, g2.2⟩
        | W => exact absurd q hw
  case nod =>
    intro j
    by_cases e : j = i
    · rw [if_pos e]; exact hn
    · rw [if_neg e]; exact r.nod j
  case dis =>
    intro j k ne a m
    by_cases e : j = i
    · subst e
      rw [if_pos rfl] at m
      rw [if_neg (Ne.symm ne)]
      exact fun m2 => r.fdom k a m2 (hnew a m).1
    · rw [if_neg e] at m
      by_cases e2 : k = i
      · rw [if_pos e2]; exact old a (r.fdom j a m)
      · rw [if_neg e2]; exact r.dis j k ne a m
  case fdom =>
    intro j a m
    by_cases e : j = i
    · rw [if_pos e] at m; exact (hnew a m).2
    · rw [if_neg e] at m; exact r1.fdom j a m
  case uns =>
    intro j a m
    by_cases e : j = i
    · rw [if_pos e] at m; unfold rm; rw [if_pos m]
    · rw [if_neg e] at m
      unfold rm
      split
      · rfl
      · exact r1.uns j a m
  case new =>
    intro j a m
    by_cases e : j = i
    · rw [if_pos e] at m
      refine .inr ?_
      cases q : R.H0 a with
      | none => rfl
      | some o => exact absurd (hnew a m).1 (r.dom0 a (by rw [q]; exact fun z => by cases z))
    · rw [if_neg e] at m; exact r.new j a m
  case volw =>
    intro j hk a m
    rw [hwf]
    by_cases e : j = i
    · subst e; rw [if_pos rfl] at m; exact .inr ⟨hk, m⟩
    · rw [if_neg e] at m; exact .inl (r.volw j hk a m)
  case volb =>
    intro j hk a m z
    rcases (hwf a).mp z with z | ⟨z1, z2⟩
    · by_cases e : j = i
      · rw [if_pos e] at m; exact (r.wdom a z).1 (hnew a m).1
      · rw [if_neg e] at m; exact r.volb j hk a m z
    · by_cases e : j = i
      · subst e; exact hk z1
      · rw [if_neg e] at m; exact r.fdom j a m (hnew a z2).1
  case wdom =>
    intro a m
    rcases (hwf a).mp m with z | ⟨z1, z2⟩
    · obtain ⟨g1, g2⟩ := r1.wdom a z
      refine ⟨g1, ?_⟩
      unfold rm
      split
      · rfl
      · exact g2
    · refine ⟨(hnew a z2).2, ?_⟩
      unfold rm
      rw [if_pos z2]
  case ior =>
    intro p h
    obtain ⟨h1, h2, h3, d', h4⟩ := r1.ior p h
    have ne : i ≠ 0 := hio (by rw [h]; exact fun z => by cases z)
    exact ⟨by rw [List.getElem?_set_ne ne]; exact h1, by rw [if_neg (Ne.symm ne)]; exact h2, h3, d', by rw [List.getElem?_set_ne ne]; exact h4⟩
end
def SG (X : Cx) (cf : Cf) (W : WX) (c : Cls) (n : Bool) (i : Nat) (st : Stmt) (f : M D) : Prop := ∃ te, PS X st (tAsg te (gName i)) ∧ Sd cf W c n te f
def sSet (i : Nat) (f : M D) : M Fl := bnd f fun d => fun e => .ok .nx (e.set i (some d))
def mok : D → Bool
  | .lst ds => ds.all fun x => x.sc || match x with | .tup es => es.all D.sc | _ => false
  | d => d.sc
def sSetM (i : Nat) (f : M D) : M Fl := bnd f fun d => bnd (lift (if mok d then some d else none)) fun d => fun e => .ok .nx (e.set i (some d))
def wok : D → Bool
  | .lst ds => ds.all D.sc
  | _ => false
def sSetW (i : Nat) (f : M D) : M Fl := bnd f fun d => bnd (lift (if wok d then some d else none)) fun d => fun e => .ok .nx (e.set i (some d))
def eS (f : M D) : M D := bnd f fun d => lift (if d.sc then some d else none)
section
variable {X : Cx} {cf : Cf} {W : WX} {c : Cls} {n : Bool} {i : Nat}
theorem SE.scal {e : Expr} {te : TE} {f : M D} (h : SE X cf W c n e te f) : SE X cf W .V true e te (eS f) := by
  obtain ⟨p, s⟩ := h
  refine ⟨p, Sd.mk (fun R Hs env σ H F wf r d env' q Q k => ?_) (fun R Hs env σ H F wf r x env' q Q k => ?_)⟩
  · obtain ⟨d1, env1, q1, q⟩ := bnd_ok q
    obtain ⟨qg, rfl⟩ := lift_ok q
    split at qg
    · cases qg
      rename_i hs
      exact s.ok r q1 fun v Hs1 H1 s1 r1 p1 _ => k v Hs1 H1 s1 r1 (p1.sc_any hs _ _) fun _ _ => p1.sc_any hs _ _
    · cases qg
  · rcases bnd_ex q with q | ⟨d1, env1, q1, q⟩
    · exact s.exn r q k
    · exact (lift_ex q).elim
theorem Post.mono {R : Rs} {Hs Hs' : Hp} {D : Ends} (e : Ex Hs Hs') : ∀ {g : Res Fl}, Post cf W R Hs D g → Post cf W R Hs' D g
  | .ok .nx _, h => fun Hs2 σ' H' F' wf' e2 r => h Hs2 σ' H' F' wf' (e.trans e2) r
  | .ok (.rt _) _, h => fun v Hs2 σ' H' F' wf' e2 r => h v Hs2 σ' H' F' wf' (e.trans e2) r
  | .ok .bk _, h => fun Hs2 σ' H' F' wf' e2 r => h Hs2 σ' H' F' wf' (e.trans e2) r
  | .ok .ct _, h => fun Hs2 σ' H' F' wf' e2 r => h Hs2 σ' H' F' wf' (e.trans e2) r
  | .ex _ _, h => fun Hs2 σ' H' F' wf' e2 r => h Hs2 σ' H' F' wf' (e.trans e2) r
  | .stuck, h => h
theorem Sd.bind {te : TE} {f : M D} {g : D → M Fl} {R : Rs} {Hs : Hp} {env : PEnv} {σ : L2.St} {H : Hp} {F : Nat → List Addr} {wf : List Addr} {D : Ends} {Q : VK} (s : Sd cf W c n te f) (r : Rel cf R Hs env σ H F wf) (hp : Post cf W R Hs D (bnd f g env))
    (k : ∀ d env1 v Hs1 H1, Stp cf wf env Hs H env1 Hs1 H1 → Rel cf R Hs1 env1 σ H1 F wf → Rp cf.K true (rg c R.H0 Hs1 H H1 wf) v d → Nr cf.K n H Hs1 v d → Post cf W R Hs D (g d env1) → Q v H1) : te σ H Q := by
  unfold bnd at hp
  cases q : f env with
  | ok d env1 => rw [q] at hp; exact s.ok r q fun v Hs1 H1 s1 r1 p1 nr => k d env1 v Hs1 H1 s1 r1 p1 nr hp
  | ex x env1 => rw [q] at hp; exact s.exn r q fun Hs1 H1 s1 r1 => hp Hs1 σ H1 F wf s1.ex r1
  | stuck => rw [q] at hp; exact hp.elim
theorem SdT.bind {tt : TT} {f : M Bool} {g : Bool → M Fl} {R : Rs} {Hs : Hp} {env : PEnv} {σ : L2.St} {H : Hp} {F : Nat → List Addr} {wf : List Addr} {D : Ends} {Q : Bool → Hp → Prop} (s : SdT cf W tt f) (r : Rel cf R Hs env σ H F wf) (hp : Post cf W R Hs D (bnd f g env))
    (k : ∀ b env1 Hs1 H1, Stp cf wf env Hs H env1 Hs1 H1 → Rel cf R Hs1 env1 σ H1 F wf → Post cf W R Hs D (g b env1) → Q b H1) : tt σ H Q := by
  unfold bnd at hp
  cases q : f env with
  | ok d env1 => rw [q] at hp; exact s.ok r q fun Hs1 H1 s1 r1 => k d env1 Hs1 H1 s1 r1 hp
  | ex x env1 => rw [q] at hp; exact s.exn r q fun Hs1 H1 s1 r1 => hp Hs1 σ H1 F wf s1.ex r1
  | stuck => rw [q] at hp; exact hp.elim
theorem post_lift {α : Type} {o : Option α} {g : α → M Fl} {R : Rs} {Hs : Hp} {env : PEnv} {D : Ends} (hp : Post cf W R Hs D (bnd (lift o) g env)) : ∃ a, o = some a ∧ Post cf W R Hs D (g a env) := by
  cases o with
  | none => exact hp.elim
  | some a => exact ⟨a, rfl, hp⟩
theorem ss_setS {st : Stmt} {f : M D} (h : SG X cf W .S n i st f) (hk : cf.kd i = .S) : SS X cf W st (sSet i f) := by
  obtain ⟨te, p, s⟩ := h
  refine ⟨_, p, fun R Hs env σ H F wf r D hp => s.bind r hp fun d env1 v Hs1 H1 s1 r1 p1 _ hp => ?_⟩
  exact hp Hs1 _ H1 F wf s1.ex (r1.put (by rw [hk]; exact fun z => by cases z) fun F' => by rw [hk]; exact p1)
theorem ss_setN {st : Stmt} {f : M D} (h : SG X cf W .N n i st f) (hk : cf.kd i = .N) : SS X cf W st (sSet i f) := by
  obtain ⟨te, p, s⟩ := h
  refine ⟨_, p, fun R Hs env σ H F wf r D hp => s.bind r hp fun d env1 v Hs1 H1 s1 r1 p1 _ hp => ?_⟩
  exact hp Hs1 _ H1 F wf s1.ex (r1.put (by rw [hk]; exact fun z => by cases z) fun F' => by rw [hk]; exact p1)
theorem ss_setW {st : Stmt} {f : M D} (h : SG X cf W .V n i st f) (hk : cf.kd i = .W) (h0 : i ≠ 0) : SS X cf W st (sSetW i f) := by
  obtain ⟨te, p, s⟩ := h
  refine ⟨_, p, fun R Hs env σ H F wf r D hp => s.bind r hp fun d env1 v Hs1 H1 s1 r1 p1 _ hp => ?_⟩
  obtain ⟨d', e, hp⟩ := post_lift hp
  split at e
  · cases e
    rename_i hm
    have p1 : Rp cf.K true (rs Hs1 H) v d := p1
    cases d with
    | lst ds =>
      obtain ⟨a, xs, rfl, h1, h2⟩ := p1.lst_inv
      have h1 : rs Hs1 H a = some (.lst xs) := h1
      have hna : H a = none := by
        cases z : H a with
        | none => rfl
        | some o => rw [rs_some z] at h1; cases h1
      rw [rs_none hna] at h1
      obtain ⟨r2, e2⟩ := r.own s1 r1 (i := i) (v := .ref a) (d := .lst ds) (Fn := [a]) (wf' := a :: wf) (fun _ => h0) (by simp)
        (fun b m => by
          rw [List.mem_singleton.mp m]
          exact ⟨hna, by rw [r1.exs _ _ h1]; exact fun z => by cases z⟩)
        (fun b => by
          rw [List.mem_cons, List.mem_singleton]
          exact ⟨fun z => z.elim (fun z => .inr ⟨hk, z⟩) .inl, fun z => z.elim .inr fun z => .inl z.2⟩)
        (by
          rw [hk]
          exact ⟨a, xs, ds, rfl, rfl, rfl, r1.exs _ _ h1, hm, h2.sc_any hm _ _⟩)
      exact hp _ _ H1 _ _ e2 r2
    | _ => cases hm
  · cases e
theorem sg_of {x : Str} {e : Expr} {te : TE} {f : M D} {pos' pos : Pos} (h : SE X cf W c n e te f) (hN : X.N.Nodup) (hi : X.N[i]? = some x) (hx : Loc X.env.scope x) (hs : swapsWith e (some (.Name x pos')) pos.line X.env = pure false := by rfl) (hf : X.fn x = true ∨ X.env.scope.names.lookup x = some .local := by first | exact .inl rfl | exact .inr rfl | assumption) :
    SG X cf W c n i (.Assign [.Name x pos'] e pos) f := by
  obtain ⟨p, s⟩ := h
  exact ⟨te, ps_set hN hi hx p hs hf, s⟩
theorem SG.le {c' : Cls} {st : Stmt} {f : M D} (h : SG X cf W c n i st f) (l : Cls.Le c c') : SG X cf W c' n i st f := let ⟨t, p, s⟩ := h; ⟨t, p, s.le l⟩
def sSkip : M Fl := ret .nx
def sSeq (a b : M Fl) : M Fl := bnd a fun f => match f with
  | .nx => b
  | o => ret o
def sDrop (f : M D) : M Fl := bnd f fun _ => ret .nx
def sRet (f : M D) : M Fl := bnd f fun d => ret (.rt d)
def sIf (t : M Bool) (a b : M Fl) : M Fl := bnd t fun k => if k then a else b
def sBrk : M Fl := ret .bk
def sCont : M Fl := ret .ct
theorem sss_nil : SSs X cf W [] sSkip := ⟨_, pss_nil, fun R Hs env σ H F wf r D hp => hp Hs σ H F wf (Ex.refl _) r⟩
theorem sds_seq {t u : TS} {a b : M Fl} (ha : SdS cf W t a) (hb : SdS cf W u b) : SdS cf W (tSeq t u) (sSeq a b) := by
  intro R Hs env σ H F wf r D hp
  refine ha R Hs env σ H F wf r { D with nx := u D } ?_
  unfold sSeq bnd at hp
  cases q : a env with
  | ok f env1 =>
    rw [q] at hp
    cases f with
    | nx => exact fun Hs' σ' H' F' wf' e r' => hb R Hs' env1 σ' H' F' wf' r' D (hp.mono e)
    | rt d => exact hp
    | bk => exact hp
    | ct => exact hp
  | ex x env1 => rw [q] at hp; exact hp
  | stuck => rw [q] at hp; exact hp
theorem sss_cons {st : Stmt} {rest : List Stmt} {a b : M Fl} (ha : SS X cf W st a) (hb : SSs X cf W rest b) : SSs X cf W (st :: rest) (sSeq a b) := let ⟨_, p, s⟩ := ha; let ⟨_, p2, s2⟩ := hb; ⟨_, pss_cons p p2, sds_seq s s2⟩
theorem sss_one {st : Stmt} {a : M Fl} (ha : SS X cf W st a) : SSs X cf W [st] a := let ⟨_, p, s⟩ := ha; ⟨_, pss_one p, s⟩
theorem ss_expr {e : Expr} {te : TE} {f : M D} {pos : Pos} (h : SE X cf W c n e te f) (hs : swapsWith e none pos.line X.env = pure false := by rfl) : SS X cf W (.Expr e pos) (sDrop f) := by
  obtain ⟨p, s⟩ := h
  exact ⟨_, ps_expr p hs, fun R Hs env σ H F wf r D hp => s.bind r hp fun d env1 v Hs1 H1 s1 r1 p1 _ hp => hp Hs1 σ H1 F wf s1.ex r1⟩
theorem ss_ret {e : Expr} {te : TE} {f : M D} {pos : Pos} (h : SE X cf W .L n e te f) : SS X cf W (.Return (some e) pos) (sRet f) := by
  obtain ⟨p, s⟩ := h
  exact ⟨_, ps_ret p, fun R Hs env σ H F wf r D hp => s.bind r hp fun d env1 v Hs1 H1 s1 r1 p1 _ hp => hp v Hs1 σ H1 F wf s1.ex r1 p1⟩
def sRetN : M Fl := ret (.rt .non)
theorem ss_if {e : Expr} {a b : List Stmt} {tt : TT} {ft : M Bool} {fa fb : M Fl} {pos : Pos} (ht : ST X cf W e tt ft) (ha : SSs X cf W a fa) (hb : SSs X cf W b fb) : SS X cf W (.If e a b pos) (sIf ft fa fb) := by
  obtain ⟨p, s⟩ := ht
  obtain ⟨ta, pa, sa⟩ := ha
  obtain ⟨tb, pb, sb⟩ := hb
  refine ⟨_, ps_if p pa pb, fun R Hs env σ H F wf r D hp => s.bind r hp fun k env1 Hs1 H1 s1 r1 hp => ?_⟩
  cases k with
  | true => exact sa R Hs1 env1 σ H1 F wf r1 D (Post.mono s1.ex hp)
  | false => exact sb R Hs1 env1 σ H1 F wf r1 D (Post.mono s1.ex hp)
def sAft (go : M Fl) : Fl → M Fl
  | .nx => go
  | .ct => go
  | .bk => ret .nx
  | .rt d => ret (.rt d)
def sWhile (t : M Bool) (b : M Fl) : Nat → M Fl
  | 0 => fail
  | n + 1 => bnd t fun k => if k then bnd b (sAft (sWhile t b n)) else ret .nx
theorem ss_while {e : Expr} {body : List Stmt} {tt : TT} {ft : M Bool} {fb : M Fl} {pos : Pos} (m : Nat) (hp : PassesOwn (model X.prog X.w) X.A X.env X.xe) (ht : ST X cf W e tt ft) (hb : SSs X cf W body fb) : SS X cf W (.While e body [] pos) (sWhile ft fb m) := by
  obtain ⟨p, s⟩ := ht
  obtain ⟨tb, pb, sb⟩ := hb
  refine ⟨_, ps_while hp p pb, fun R Hs env σ H F wf r D hp => ?_⟩
  refine ⟨fun m σ H => ∃ Hs1 env F wf, Ex Hs Hs1 ∧ Rel cf R Hs1 env σ H F wf ∧ Post cf W R Hs1 D (sWhile ft fb m env), ⟨m, Hs, env, F, wf, Ex.refl _, r, hp⟩, ?_⟩
  rintro m σ H ⟨Hs1, env, F, wf, e1, r, hp⟩
  cases m with
  | zero => exact hp.elim
  | succ m =>
    refine s.bind r hp fun k env1 Hs2 H2 s2 r2 hp => ?_
    have hp := Post.mono s2.ex hp
    cases k with
    | false => exact hp Hs2 σ H2 F wf (Ex.refl _) r2
    | true =>
      refine ⟨fun σ' H' => ∃ Hs3 env F wf, Ex Hs Hs3 ∧ Rel cf R Hs3 env σ' H' F wf ∧ Post cf W R Hs3 D (sWhile ft fb m env), fun σ' H' h => ⟨m, Nat.lt_succ_self m, h⟩, ?_⟩
      refine sb R Hs2 env1 σ H2 F wf r2 _ ?_
      have hp : Post cf W R Hs2 D (bnd fb (sAft (sWhile ft fb m)) env1) := hp
      unfold bnd at hp
      cases q : fb env1 with
      | ok f env2 =>
        rw [q] at hp
        cases f with
        | nx => exact fun Hs' σ' H' F' wf' e r' => ⟨Hs', env2, F', wf', (e1.trans s2.ex).trans e, r', Post.mono e hp⟩
        | ct => exact fun Hs' σ' H' F' wf' e r' => ⟨Hs', env2, F', wf', (e1.trans s2.ex).trans e, r', Post.mono e hp⟩
        | bk => exact fun Hs' σ' H' F' wf' e r' => hp Hs' σ' H' F' wf' e r'
        | rt d => exact hp
      | ex x env2 => rw [q] at hp; exact hp
      | stuck => rw [q] at hp; exact hp
end
end MV
namespace MV
open PySem L2
structure ItOk (K : PySem.W.Frag) (J : It) (Hs1 : Hp) (ds : List D) : Prop where
  go : ∀ i H, i < ds.length → Ex Hs1 H → J.go i H
  stop : ∀ H, Ex Hs1 H → J.stop ds.length H
  yld : ∀ i H x H', Ex Hs1 H → i < ds.length → J.yld i H x H' → Ex H H' ∧ ∀ G, Ex Hs1 G → Ex G H → ∃ d, ds[i]? = some d ∧ Rp K true (grow G H H') x d
def SdI (cf : Cf) (W : WX) (wi : TI) (fi : M (List D)) : Prop :=
  ∀ (R : Rs) (Hs : Hp) (env : PEnv) (σ : L2.St) (H : Hp) (F : Nat → List Addr) (wf : List Addr), Rel cf R Hs env σ H F wf → ∀ Rk : It → Hp → Prop,
    match fi env with
    | .ok ds env' => (∀ J Hs' H', Stp cf wf env Hs H env' Hs' H' → Rel cf R Hs' env' σ H' F wf → ItOk cf.K J Hs' ds → Rk J H') → wi σ H Rk
    | .ex x env' => (∀ Hs' H', Stp cf wf env Hs H env' Hs' H' → Rel cf R Hs' env' σ H' F wf → W (cf.cv x) none σ H') → wi σ H Rk
    | .stuck => True
structure SI (X : Cx) (cf : Cf) (W : WX) (tg iter : Expr) (wi : TI) (fi : M (List D)) : Prop where
  p : PI X tg iter wi
  s : SdI cf W wi fi
section
variable {K : PySem.W.Frag}
theorem itl_ok {a : Addr} {xs : List V} {ds : List D} {Hs1 : Hp} (h : Hs1 a = some (.lst xs)) (r : RpL K true Hs1 xs ds) : ItOk K (Itl K a) Hs1 ds where
  go := fun i H hi e => by
    have hi' : i < xs.length := by rw [r.length]; exact hi
    exact ⟨xs, xs[i], .inl (.inl (e _ _ h)), by simp [hi']⟩
  stop := fun H e => ⟨xs, .inl (.inl (e _ _ h)), by rw [r.length]; exact Nat.le_refl _⟩
  yld := fun i H x H' e hi y => by
    obtain ⟨rfl, y⟩ := y
    refine ⟨Ex.refl _, fun G eg e2 => ?_⟩
    obtain ⟨d, hd, hr⟩ := r.getV (y xs (.inl (.inl (e _ _ h))))
    exact ⟨d, hd, hr.mono (eg.trans (Ex.grow e2 (Ex.refl _)))⟩
def rngD (lo : Int) (n : Nat) : List D := (List.range n).map fun k => .int (lo + (k : Nat))
theorem rngD_len (lo : Int) (n : Nat) : (rngD lo n).length = n := by unfold rngD; rw [List.length_map, List.length_range]
theorem itr_ok {lo : Int} {n : Nat} {Hs1 : Hp} : ItOk K (Itr lo n) Hs1 (rngD lo n) where
  go := fun i H hi e => by rw [rngD_len] at hi; exact hi
  stop := fun H e => by rw [rngD_len]; exact Nat.le_refl _
  yld := fun i H x H' e hi y => by
    obtain ⟨rfl, rfl⟩ := y
    rw [rngD_len] at hi
    exact ⟨Ex.refl _, fun G eg e2 => ⟨.int (lo + i), by unfold rngD; simp [hi], .int _⟩⟩
def rngC (lo c : Int) (n : Nat) : List D := (List.range n).map fun k => .int (lo + (k : Nat) * c)
theorem rngC_len (lo c : Int) (n : Nat) : (rngC lo c n).length = n := by unfold rngC; rw [List.length_map, List.length_range]
theorem itc_ok {lo c : Int} {n : Nat} {Hs1 : Hp} : ItOk K (Itc lo c n) Hs1 (rngC lo c n) where
  go := fun i H hi e => by rw [rngC_len] at hi; exact hi
  stop := fun H e => by rw [rngC_len]; exact Nat.le_refl _
  yld := fun i H x H' e hi y => by
    obtain ⟨rfl, rfl⟩ := y
    rw [rngC_len] at hi
    exact ⟨Ex.refl _, fun G eg e2 => ⟨.int (lo + (i : Nat) * c), by unfold rngC; simp [hi], .int _⟩⟩
def enumD (ds : List D) : List D := ds.zipIdx.map fun p => .tup [.int (p.2 : Nat), p.1]
def zipD (as bs : List D) : List D := (as.zip bs).map fun p => .tup [p.1, p.2]
def strD (z : Str) : List D := z.cps.toList.map fun c => .str ⟨#[c]⟩
end
def asL : D → Option (List D)
  | .lst ds => some ds
  | _ => none
def asT : D → Option (List D)
  | .tup ds => some ds
  | _ => none
def asStr : D → Option (List D)
  | .str z => some (strD z)
  | _ => none
def iL (f : M D) : M (List D) := bnd f fun d => lift (asL d)
def iT (f : M D) : M (List D) := bnd f fun d => lift (asT d)
def iS (f : M D) : M (List D) := bnd f fun d => lift (asStr d)
def smallI (i : Int) : Bool := decide (-(2 ^ 62) ≤ i ∧ i < 2 ^ 62)
def gR1 : List D → Option (List D)
  | [.int j] => if smallI j then some (rngD 0 j.toNat) else none
  | _ => none
def gR2 : List D → Option (List D)
  | [.int i, .int j] => if smallI i && smallI j then some (rngD i (j - i).toNat) else none
  | _ => none
def gEn : List D → Option (List D)
  | [.lst ds] => some (enumD ds)
  | _ => none
def gZp : List D → Option (List D)
  | [.lst as, .lst bs] => some (zipD as bs)
  | _ => none
def iN (g : List D → Option (List D)) (a : M (List D)) : M (List D) := bnd a fun x => lift (g x)
section
variable {X : Cx} {cf : Cf} {W : WX} {c : Cls} {n : Bool} {tg : Expr}
theorem SdI.mk {wi : TI} {fi : M (List D)} (h1 : ∀ R Hs env σ H F wf, Rel cf R Hs env σ H F wf → ∀ ds env', fi env = .ok ds env' → ∀ Rk : It → Hp → Prop, (∀ J Hs' H', Stp cf wf env Hs H env' Hs' H' → Rel cf R Hs' env' σ H' F wf → ItOk cf.K J Hs' ds → Rk J H') → wi σ H Rk)
    (h2 : ∀ R Hs env σ H F wf, Rel cf R Hs env σ H F wf → ∀ x env', fi env = .ex x env' → ∀ Rk : It → Hp → Prop, (∀ Hs' H', Stp cf wf env Hs H env' Hs' H' → Rel cf R Hs' env' σ H' F wf → W (cf.cv x) none σ H') → wi σ H Rk) : SdI cf W wi fi := by
  intro R Hs env σ H F wf r Q
  cases q : fi env with
  | ok d env' => exact h1 R Hs env σ H F wf r d env' q Q
  | ex x env' => exact h2 R Hs env σ H F wf r x env' q Q
  | stuck => trivial
theorem asL_some {d : D} {ds : List D} (h : asL d = some ds) : d = .lst ds := by
  unfold asL at h; split at h <;> cases h; rfl
theorem si_list {e : Expr} {te : TE} {f : M D} (hK : cf.K = X.K) (h : SE X cf W .S n e te f) : SI X cf W tg e (iList cf.K te) (iL f) := by
  rw [hK]
  obtain ⟨p, s⟩ := h
  refine ⟨pi_list p, SdI.mk (fun R Hs env σ H F wf r ds env' q Rk k => ?_) (fun R Hs env σ H F wf r x env' q Rk k => ?_)⟩
  · obtain ⟨d1, env1, q1, q⟩ := bnd_ok q
    obtain ⟨qg, rfl⟩ := lift_ok q
    cases asL_some qg
    refine s.ok r q1 fun v Hs1 H1 s1 r1 p1 _ => ?_
    obtain ⟨a, xs, rfl, h1, h2⟩ := p1.lst_inv
    exact ⟨a, rfl, ⟨xs, .inl (.inl (r1.exs _ _ h1))⟩, k _ Hs1 H1 s1 r1 (by rw [← hK]; exact itl_ok h1 h2)⟩
  · rcases bnd_ex q with q | ⟨d1, env1, q1, q⟩
    · exact s.exn r q k
    · exact (lift_ex q).elim
theorem smallI_of {i : Int} (h : smallI i = true) : -(2 ^ 62) ≤ i ∧ i < 2 ^ 62 := of_decide_eq_true h
theorem si_range1 {a : Expr} {ta : TA} {fa : M (List D)} {p pos : Pos} (hg : Gl X "range") (hm : X.mg "range" = none) (ha : SA X cf W c [a] ta fa) (hs : starEach [a] X.env = [(false, eval a X.env)] := by rfl) : SI X cf W tg (.Call (.Name "range" p) [a] [] pos) (iRng1 ta) (iN gR1 fa) := by
  obtain ⟨q, s⟩ := ha
  refine ⟨pi_range1 hg hm q hs, SdI.mk (fun R Hs env σ H F wf r ds env' q Rk k => ?_) (fun R Hs env σ H F wf r x env' q Rk k => ?_)⟩
  · obtain ⟨d1, env1, q1, q⟩ := bnd_ok q
    obtain ⟨qg, rfl⟩ := lift_ok q
    unfold gR1 at qg
    split at qg
    · split at qg
      · rename_i hb
        cases qg
        refine s.ok r q1 fun v Hs1 H1 s1 r1 p1 => ?_
        obtain ⟨w, rfl, hw⟩ := p1.one
        exact ⟨_, by rw [hw.int_inv], (smallI_of hb).1, (smallI_of hb).2, k _ Hs1 H1 s1 r1 itr_ok⟩
      · cases qg
    · cases qg
  · rcases bnd_ex q with q | ⟨d1, env1, q1, q⟩
    · exact s.exn r q k
    · exact (lift_ex q).elim
theorem si_range2 {a b : Expr} {ta : TA} {fa : M (List D)} {p pos : Pos} (hg : Gl X "range") (hm : X.mg "range" = none) (ha : SA X cf W c [a, b] ta fa) (hs : starEach [a, b] X.env = [(false, eval a X.env), (false, eval b X.env)] := by rfl) (hs2 : starEach [b] X.env = [(false, eval b X.env)] := by rfl) : SI X cf W tg (.Call (.Name "range" p) [a, b] [] pos) (iRng2 ta) (iN gR2 fa) := by
  obtain ⟨q, s⟩ := ha
  refine ⟨pi_range2 hg hm q hs hs2, SdI.mk (fun R Hs env σ H F wf r ds env' q Rk k => ?_) (fun R Hs env σ H F wf r x env' q Rk k => ?_)⟩
  · obtain ⟨d1, env1, q1, q⟩ := bnd_ok q
    obtain ⟨qg, rfl⟩ := lift_ok q
    unfold gR2 at qg
    split at qg
    · split at qg
      · rename_i hb
        cases qg
        rw [Bool.and_eq_true] at hb
        refine s.ok r q1 fun v Hs1 H1 s1 r1 p1 => ?_
        obtain ⟨w, w2, rfl, hw, hw2⟩ := p1.two
        exact ⟨_, _, by rw [hw.int_inv, hw2.int_inv], ⟨(smallI_of hb.1).1, (smallI_of hb.1).2, (smallI_of hb.2).1, (smallI_of hb.2).2⟩, k _ Hs1 H1 s1 r1 itr_ok⟩
      · cases qg
    · cases qg
  · rcases bnd_ex q with q | ⟨d1, env1, q1, q⟩
    · exact s.exn r q k
    · exact (lift_ex q).elim
def tgN (i : Nat) : D → M Unit := fun d e => .ok () (e.set i (some d))
def setAll : List Nat → List D → PEnv → Option PEnv
  | [], [], e => some e
  | i :: is, d :: ds, e => setAll is ds (e.set i (some d))
  | _, _, _ => none
def tgT (is : List Nat) : D → M Unit := fun d e => match d with
  | .tup ds => match setAll is ds e with
    | some e' => .ok () e'
    | none => .stuck
  | _ => .stuck
def SdG (cf : Cf) (is : List Nat) (g : TG) (tg : D → M Unit) : Prop :=
  ∀ (R : Rs) (Hs : Hp) (env : PEnv) (σ : L2.St) (H : Hp) (F : Nat → List Addr) (wf : List Addr), Rel cf R Hs env σ H F wf → ∀ (d : D) (v : V), Rp cf.K true Hs v d → ∀ Q : L2.St → Hp → Prop,
    match tg d env with
    | .ok _ env' => (∀ σ', Rel cf R Hs env' σ' H F wf → wipe σ' is = wipe σ is → (∀ j, j ∉ is → env'[j]? = env[j]?) → Q σ' H) → g v σ H Q
    | .ex _ _ => False
    | .stuck => True
structure SGt (X : Cx) (cf : Cf) (is : List Nat) (tg : Expr) (g : TG) (f : D → M Unit) : Prop where
  p : PG X tg g
  s : SdG cf is g f
theorem wipe_set (σ : L2.St) (i : Nat) (x : Option V) : ∀ is : List Nat, i ∈ is → wipe (σ.set i x) is = wipe σ is
  | [], h => by cases h
  | j :: is, h => by
    unfold wipe
    by_cases e : i ∈ is
    · rw [wipe_set σ i x is e]
    · have : i = j := (List.mem_cons.mp h).resolve_right e
      subst this
      have hh : ∀ is : List Nat, i ∉ is → wipe (σ.set i x) is = (wipe σ is).set i x := by
        intro is
        induction is with
        | nil => intro _; rfl
        | cons k is ih =>
          intro hn
          unfold wipe
          rw [ih (fun m => hn (List.mem_cons_of_mem _ m)), List.set_comm _ _ (fun e => hn (by rw [e]; exact List.mem_cons_self))]
      rw [hh is e, List.set_set]
theorem sgt_name {i : Nat} {x : Str} {pos : Pos} {is : List Nat} (hm : i ∈ is) (hk : cf.kd i = .S) (hN : X.N.Nodup) (hi : X.N[i]? = some x) (hx : Loc X.env.scope x) (hf : X.fn x = true ∨ X.env.scope.names.lookup x = some .local := by first | exact .inl rfl | exact .inr rfl | assumption) : SGt X cf is (.Name x pos) (gName i) (tgN i) :=
  ⟨pg_name hN hi hx hf, fun R Hs env σ H F wf r d v p Q k => k _ (r.put (by rw [hk]; exact fun z => by cases z) fun F' => by rw [hk]; exact p) (wipe_set σ i _ is hm) fun j hj => List.getElem?_set_ne (fun e => hj (by rw [← e]; exact hm))⟩
def SdGs (cf : Cf) (is js : List Nat) (g : TGs) : Prop :=
  ∀ (R : Rs) (Hs : Hp) (env : PEnv) (σ : L2.St) (H : Hp) (F : Nat → List Addr) (wf : List Addr), Rel cf R Hs env σ H F wf → ∀ (ds : List D) (vs : List V), RpL cf.K true Hs vs ds → ∀ Q : L2.St → Hp → Prop, ∀ env', setAll js ds env = some env' →
    (∀ σ', Rel cf R Hs env' σ' H F wf → wipe σ' is = wipe σ is → (∀ j, j ∉ is → env'[j]? = env[j]?) → Q σ' H) → g vs σ H Q
structure SGts (X : Cx) (cf : Cf) (is js : List Nat) (ts : List Expr) (g : TGs) : Prop where
  p : PGs X ts g
  s : SdGs cf is js g
theorem sgts_nil {is : List Nat} : SGts X cf is [] [] gNil := ⟨pgs_nil, fun R Hs env σ H F wf r ds vs p Q env' q k => by
  cases p with
  | nil => rw [setAll] at q; cases q; exact ⟨rfl, k σ r rfl fun _ _ => rfl⟩
  | cons _ _ => rw [setAll] at q <;> first | cases q | (intros; rintro ⟨⟩)⟩
theorem sgts_cons {is js : List Nat} {i : Nat} {x : Str} {pos : Pos} {es : List Expr} {g : TGs} (hm : i ∈ is) (hk : cf.kd i = .S) (hN : X.N.Nodup) (hi : X.N[i]? = some x) (hx : Loc X.env.scope x) (h2 : SGts X cf is js es g) (hf : X.fn x = true ∨ X.env.scope.names.lookup x = some .local := by first | exact .inl rfl | exact .inr rfl | assumption)
    (hs : (assignEach (.Name x pos :: es) X.env).map (·.2) = assign (.Name x pos) X.env :: (assignEach es X.env).map (·.2) := by rfl) : SGts X cf is (i :: js) (.Name x pos :: es) (gCons (gName i) g) := by
  obtain ⟨p, s⟩ := h2
  refine ⟨pgs_cons (pg_name hN hi hx hf) p hs, fun R Hs env σ H F wf r ds vs p Q env' q k => ?_⟩
  cases p with
  | nil => rw [setAll] at q <;> first | cases q | (intros; rintro ⟨⟩)
  | cons h1 h2 =>
    rw [setAll] at q
    refine ⟨_, _, rfl, ?_⟩
    refine s R Hs _ _ H F wf (r.put (by rw [hk]; exact fun z => by cases z) fun F' => by rw [hk]; exact h1) _ _ h2 Q env' q fun σ' r' w' kj => ?_
    exact k σ' r' (w'.trans (wipe_set σ i _ is hm)) fun j hj => (kj j hj).trans (List.getElem?_set_ne (fun e => hj (by rw [← e]; exact hm)))
theorem sgt_tup {is js : List Nat} {es : List Expr} {g : TGs} {k : Nat} {pos : Pos} (hK : cf.K = X.K) (hc : X.calm = true) (h : SGts X cf is js es g) (hl : es.length = js.length)
    (hn : (assignEach es X.env).length = js.length := by rfl) (hst : (assignEach es X.env).findIdx? (·.1) = none := by rfl) : SGt X cf is (.Tuple es k pos) (gTup cf.K js.length g) (tgT js) := by
  rw [hK]
  obtain ⟨p, s⟩ := h
  refine ⟨pg_tup hc p hn hst, fun R Hs env σ H F wf r d v p Q => ?_⟩
  cases d with
  | tup ds =>
    cases q : setAll js ds env with
    | none =>
      have e1 : tgT js (.tup ds) env = .stuck := by simp only [tgT, q]
      rw [e1]; trivial
    | some env' =>
      have e1 : tgT js (.tup ds) env = .ok () env' := by simp only [tgT, q]
      rw [e1]
      intro kk
      obtain ⟨a, xs, rfl, h1, h2⟩ := p.tup_inv
      have hlen : ∀ (js : List Nat) (ds : List D) (e e' : PEnv), setAll js ds e = some e' → ds.length = js.length := by
        intro js
        induction js with
        | nil => intro ds e e' q; cases ds with
          | nil => rfl
          | cons _ _ => rw [setAll] at q <;> first | cases q | (intros; rintro ⟨⟩)
        | cons j js ih => intro ds e e' q; cases ds with
          | nil => rw [setAll] at q <;> first | cases q | (intros; rintro ⟨⟩)
          | cons d ds => rw [setAll] at q; rw [List.length_cons, List.length_cons, ih ds _ _ q]
      refine ⟨a, xs, rfl, .inl (.inl (r.exs _ _ h1)), by rw [h2.length, hlen js ds env env' q], ?_⟩
      exact s R Hs env σ H F wf r ds xs h2 Q env' q kk
  | _ => unfold tgT; trivial
def sForL (tg : D → M Unit) (b : M Fl) : List D → M Fl
  | [] => ret .nx
  | d :: r => bnd (tg d) fun _ => bnd b (sAft (sForL tg b r))
def sFor (fi : M (List D)) (tg : D → M Unit) (b : M Fl) : M Fl := bnd fi fun ds => sForL tg b ds
theorem ss_for {iter : Expr} {body : List Stmt} {wi : TI} {g : TG} {fi : M (List D)} {is : List Nat} {ft : D → M Unit} {fb : M Fl} {pos : Pos} (hp : PassesOwn (model X.prog X.w) X.A X.env X.xe) (hc : X.calm = true) (hi : SI X cf W tg iter wi fi) (hg : SGt X cf is tg g ft) (hb : SSs X cf W body fb)
    (hs : ∀ x, foldedSetIterable iter X.env x = pure x := by intro _; rfl) : SS X cf W (.For tg iter body [] pos) (sFor fi ft fb) := by
  obtain ⟨pi, si⟩ := hi
  obtain ⟨pg, sg⟩ := hg
  obtain ⟨tb, pb, sb⟩ := hb
  refine ⟨_, ps_for hp hc pi pg pb hs, fun R Hs env σ H F wf r D hp => ?_⟩
  have h := si R Hs env σ H F wf r
  unfold sFor bnd at hp
  cases q : fi env with
  | stuck => rw [q] at hp; exact hp.elim
  | ex x env1 =>
    rw [q] at hp
    have h := h fun J H1 => ∃ W : Nat → Nat → L2.St → Hp → Prop, (∃ m, W 0 m σ H1) ∧ ∀ i m σ H, W i m σ H → (J.stop i H ∧ D.nx σ H) ∨ (J.go i H ∧ ∃ N : L2.St → Hp → Prop, (∀ σ' H', N σ' H' → ∃ m', m' < m ∧ W (i + 1) m' σ' H') ∧ ∀ x H', J.yld i H x H' → g x σ H' fun σ2 H2 => tb { D with nx := N, ct := N, bk := D.nx } σ2 H2)
    rw [q] at h
    exact h fun Hs1 H1 s1 r1 => hp Hs1 σ H1 F wf s1.ex r1
  | ok ds env1 =>
    rw [q] at hp
    have h := h fun J H1 => ∃ W : Nat → Nat → L2.St → Hp → Prop, (∃ m, W 0 m σ H1) ∧ ∀ i m σ H, W i m σ H → (J.stop i H ∧ D.nx σ H) ∨ (J.go i H ∧ ∃ N : L2.St → Hp → Prop, (∀ σ' H', N σ' H' → ∃ m', m' < m ∧ W (i + 1) m' σ' H') ∧ ∀ x H', J.yld i H x H' → g x σ H' fun σ2 H2 => tb { D with nx := N, ct := N, bk := D.nx } σ2 H2)
    rw [q] at h
    refine h fun J Hs1 H1 s1 r1 it => ?_
    refine ⟨fun i m σ H => ∃ Hs2 env2 F2 wf2, Ex Hs1 Hs2 ∧ Rel cf R Hs2 env2 σ H F2 wf2 ∧ i ≤ ds.length ∧ m = ds.length - i ∧ Post cf W R Hs2 D (sForL ft fb (ds.drop i) env2),
      ⟨ds.length, Hs1, env1, F, wf, Ex.refl _, r1, Nat.zero_le _, by simp, by rw [List.drop_zero]; exact Post.mono s1.ex hp⟩, ?_⟩
    rintro i m σ H ⟨Hs2, env2, F2, wf2, e2, r2, hi, rfl, hp⟩
    by_cases hlt : i < ds.length
    · refine .inr ⟨it.go i H hlt (e2.trans r2.exs), fun σ' H' => ∃ Hs3 env3 F3 wf3, Ex Hs1 Hs3 ∧ Rel cf R Hs3 env3 σ' H' F3 wf3 ∧ Post cf W R Hs3 D (sForL ft fb (ds.drop (i + 1)) env3), fun σ' H' hN => ?_, fun x H' y => ?_⟩
      · obtain ⟨Hs3, env3, F3, wf3, e3, r3, hp3⟩ := hN
        exact ⟨ds.length - (i + 1), by omega, Hs3, env3, F3, wf3, e3, r3, hlt, rfl, hp3⟩
      · obtain ⟨eg, hy⟩ := it.yld i H x H' (e2.trans r2.exs) hlt y
        obtain ⟨d, hd, hr⟩ := hy Hs2 e2 r2.exs
        have ed : ds.drop i = d :: ds.drop (i + 1) := by
          rw [List.drop_eq_getElem_cons hlt]
          rw [List.getElem?_eq_getElem hlt] at hd
          cases hd
          rfl
        rw [ed, sForL] at hp
        have r3 := r2.grow eg
        have e3 : Ex Hs2 (grow Hs2 H H') := Ex.grow r2.exs eg
        have hg := sg R _ env2 σ H' F2 wf2 r3 d x hr fun σ2 H2 => tb { D with nx := fun σ' H' => ∃ Hs3 env3 F3 wf3, Ex Hs1 Hs3 ∧ Rel cf R Hs3 env3 σ' H' F3 wf3 ∧ Post cf W R Hs3 D (sForL ft fb (ds.drop (i + 1)) env3), ct := fun σ' H' => ∃ Hs3 env3 F3 wf3, Ex Hs1 Hs3 ∧ Rel cf R Hs3 env3 σ' H' F3 wf3 ∧ Post cf W R Hs3 D (sForL ft fb (ds.drop (i + 1)) env3), bk := D.nx } σ2 H2
        cases qt : ft d env2 with
        | stuck =>
          rw [bnd_of_stuck qt] at hp; exact hp.elim
        | ex x env3 => rw [qt] at hg; exact hg.elim
        | ok u env3 =>
          rw [bnd_of_ok qt] at hp
          rw [qt] at hg
          refine hg fun σ2 r4 _ _ => ?_
          refine sb R _ env3 σ2 H' F2 wf2 r4 _ ?_
          have hp : Post cf W R _ D (bnd fb (sAft (sForL ft fb (ds.drop (i + 1)))) env3) := Post.mono e3 hp
          unfold bnd at hp
          cases qb : fb env3 with
          | ok f env4 =>
            rw [qb] at hp
            cases f with
            | nx => exact fun Hs' σ' H' F' wf' e r' => ⟨Hs', env4, F', wf', (e2.trans e3).trans e, r', Post.mono e hp⟩
            | ct => exact fun Hs' σ' H' F' wf' e r' => ⟨Hs', env4, F', wf', (e2.trans e3).trans e, r', Post.mono e hp⟩
            | bk => exact fun Hs' σ' H' F' wf' e r' => hp Hs' σ' H' F' wf' e r'
            | rt d => exact hp
          | ex x env4 => rw [qb] at hp; exact hp
          | stuck => rw [qb] at hp; exact hp
    · have e : i = ds.length := by omega
      subst e
      rw [List.drop_length] at hp
      exact .inl ⟨it.stop H (e2.trans r2.exs), hp Hs2 σ H F2 wf2 (Ex.refl _) r2⟩
end
end MV
namespace MV
open PySem L2
abbrev W0 : WX := fun _ _ _ _ => False
def wipeE : List Nat → PEnv → PEnv
  | [], e => e
  | v :: vs, e => (wipeE vs e).set v none
def restE : List Nat → PEnv → PEnv → PEnv
  | [], _, e1 => e1
  | v :: vs, e, e1 => (restE vs e e1).set v ((e[v]?).getD none)
theorem wipeE_len : ∀ (is : List Nat) (e : PEnv), (wipeE is e).length = e.length
  | [], _ => rfl
  | v :: vs, e => by unfold wipeE; rw [List.length_set, wipeE_len vs e]
theorem restE_len : ∀ (is : List Nat) (e e1 : PEnv), (restE is e e1).length = e1.length
  | [], _, _ => rfl
  | v :: vs, e, e1 => by unfold restE; rw [List.length_set, restE_len vs e e1]
theorem wipeE_get {is : List Nat} {e : PEnv} {j : Nat} {d : D} (h : (wipeE is e)[j]? = some (some d)) : e[j]? = some (some d) ∧ j ∉ is := by
  induction is with
  | nil => exact ⟨h, by simp⟩
  | cons v vs ih =>
    unfold wipeE at h
    rcases get_set h with ⟨_, z, _⟩ | ⟨ne, h⟩
    · cases z
    · obtain ⟨h1, h2⟩ := ih h
      exact ⟨h1, fun m => (List.mem_cons.mp m).elim (fun z => ne z.symm) h2⟩
theorem wipeE_out {is : List Nat} {e : PEnv} {j : Nat} (h : j ∉ is) : (wipeE is e)[j]? = e[j]? := by
  induction is with
  | nil => rfl
  | cons v vs ih =>
    unfold wipeE
    rw [List.getElem?_set_ne (fun z => h (by rw [z]; exact List.mem_cons_self)), ih fun m => h (List.mem_cons_of_mem _ m)]
theorem restE_out {is : List Nat} {e e1 : PEnv} {j : Nat} (h : j ∉ is) : (restE is e e1)[j]? = e1[j]? := by
  induction is with
  | nil => rfl
  | cons v vs ih =>
    unfold restE
    rw [List.getElem?_set_ne (fun z => h (by rw [z]; exact List.mem_cons_self)), ih fun m => h (List.mem_cons_of_mem _ m)]
theorem restE_in {is : List Nat} {e e1 : PEnv} {j : Nat} (h : j ∈ is) (hl : e.length = e1.length) : (restE is e e1)[j]? = e[j]? := by
  induction is with
  | nil => cases h
  | cons v vs ih =>
    unfold restE
    by_cases z : v = j
    · subst z
      by_cases hv : v < e.length
      · rw [List.getElem?_set_self (by rw [restE_len]; omega), List.getElem?_eq_getElem hv]; rfl
      · rw [List.getElem?_eq_none (by rw [List.length_set, restE_len]; omega), List.getElem?_eq_none (by omega)]
    · rw [List.getElem?_set_ne z]
      exact ih ((List.mem_cons.mp h).resolve_left fun q => z q.symm)
def lcGo (is : List Nat) (tg : D → M Unit) (tt : M Bool) (fe : M D) : List D → List D → M (List D)
  | [], acc => ret acc
  | d :: r, acc => bnd (tg d) fun _ => bnd tt fun k =>
      if k then bnd fe fun y => bnd (lift (if acc.length < LIM then some () else none)) fun _ => fun e => lcGo is tg tt fe r (acc ++ [y]) (wipeE is e)
      else fun e => lcGo is tg tt fe r acc (wipeE is e)
def eLc (is : List Nat) (fi : M (List D)) (tg : D → M Unit) (tt : M Bool) (fe : M D) : M D := bnd fi fun ds => fun e => match lcGo is tg tt fe ds [] (wipeE is e) with
  | .ok acc e1 => .ok (.lst acc) (restE is e e1)
  | _ => .stuck
def tTrue : M Bool := ret true
structure ItOkW (K : PySem.W.Frag) (J : It) (G1 Hs1 : Hp) (ds : List D) : Prop where
  go : ∀ i H, i < ds.length → Ex G1 H → J.go i H
  stop : ∀ H, Ex G1 H → J.stop ds.length H
  yld : ∀ i H x H', Ex G1 H → i < ds.length → J.yld i H x H' → Ex H H' ∧ ∀ G, Ex Hs1 G → Ex G H → ∃ d, ds[i]? = some d ∧ Rp K true (grow G H H') x d
theorem ItOk.w {K : PySem.W.Frag} {J : It} {Hs1 : Hp} {ds : List D} (h : ItOk K J Hs1 ds) : ItOkW K J Hs1 Hs1 ds := ⟨h.go, h.stop, h.yld⟩
def SdIB (cf : Cf) (W : WX) (wi : TI) (fi : M (List D)) : Prop :=
  ∀ (R : Rs) (Hs : Hp) (env : PEnv) (σ : L2.St) (H : Hp) (F : Nat → List Addr) (wf : List Addr), Rel cf R Hs env σ H F wf → ∀ Rk : It → Hp → Prop,
    match fi env with
    | .ok ds env' => (∀ J G1 Hs' H', Stp cf wf env Hs H env' Hs' H' → Rel cf R Hs' env' σ H' F wf → Ex G1 (rm H' wf) → ItOkW cf.K J G1 Hs' ds → Rk J H') → wi σ H Rk
    | .ex x env' => (∀ Hs' H', Stp cf wf env Hs H env' Hs' H' → Rel cf R Hs' env' σ H' F wf → W (cf.cv x) none σ H') → wi σ H Rk
    | .stuck => True
structure SIB (X : Cx) (cf : Cf) (W : WX) (tg iter : Expr) (wi : TI) (fi : M (List D)) : Prop where
  p : PI X tg iter wi
  s : SdIB cf W wi fi
section
variable {X : Cx} {cf : Cf} {W : WX} {c : Cls} {n n1 : Bool}
theorem SdI.w {wi : TI} {fi : M (List D)} (h : SdI cf W wi fi) : SdIB cf W wi fi := fun R Hs env σ H F wf r Rk => by
  have h := h R Hs env σ H F wf r Rk
  cases q : fi env with
  | ok ds env' => rw [q] at h; exact fun k => h fun J Hs' H' s r' it => k J Hs' Hs' H' s r' (rg_le (c := .S) (c' := .B) .sb (H0 := R.H0) (Hst := H) r'.exs r.dom0 fun a m => (r'.wdom a m).2) it.w
  | ex x env' => rw [q] at h; exact h
  | stuck => trivial
theorem SI.w {tg iter : Expr} {wi : TI} {fi : M (List D)} (h : SI X cf W tg iter wi fi) : SIB X cf W tg iter wi fi := ⟨h.p, h.s.w⟩
def asLs : D → Option (List D)
  | .lst ds => if ds.all D.sc then some ds else none
  | _ => none
def iLs (f : M D) : M (List D) := bnd f fun d => lift (asLs d)
theorem Rel.bump {R : Rs} {Hs : Hp} {env : PEnv} {σ : L2.St} {H : Hp} {F : Nat → List Addr} {wf : List Addr} {p : Addr} {o : HO} (r : Rel cf R Hs env σ H F wf) (hs : Hs p = none) (hF : ∀ i, p ∉ F i) : Rel cf R Hs env σ (upd H p o) F wf where
  len := r.len
  exs := fun a u h => by rw [upd_ne (fun e => by subst e; rw [hs] at h; cases h)]; exact r.exs a u h
  ex0 := r.ex0
  dom0 := fun a h => by
    by_cases e : a = p
    · subst e; rw [upd_same]; exact fun z => by cases z
    · rw [upd_ne e]; exact r.dom0 a h
  slot := fun j d h => by
    obtain ⟨w, h1, h2⟩ := r.slot j d h
    refine ⟨w, h1, ?_⟩
    have np : ∀ a ∈ F j, ∀ u, H a = some u → upd H p o a = some u := fun a m u h => by
      rw [upd_ne (fun e => by subst e; exact hF j m)]; exact h
    cases q : cf.kd j with
    | S => rw [q] at h2; exact h2
    | N => rw [q] at h2; exact h2
    | Q => rw [q] at h2; exact h2
    | P => rw [q] at h2; exact Own.keep (Ex.refl _) h2 np
    | M => rw [q] at h2; exact ⟨Own.keep (Ex.refl _) h2.1 np, h2.2⟩
    | W =>
      rw [q] at h2
      obtain ⟨p2, xs, ds, e1, e2, e3, e4, e5⟩ := h2
      exact ⟨p2, xs, ds, e1, e2, e3, np p2 (by rw [e3]; exact List.mem_singleton.mpr rfl) _ e4, e5⟩
  nod := r.nod
  dis := r.dis
  fdom := fun j a h => by
    by_cases e : a = p
    · subst e; rw [upd_same]; exact fun z => by cases z
    · rw [upd_ne e]; exact r.fdom j a h
  uns := r.uns
  new := r.new
  volw := r.volw
  volb := r.volb
  wdom := fun a h => by
    obtain ⟨h1, h2⟩ := r.wdom a h
    refine ⟨?_, h2⟩
    by_cases e : a = p
    · subst e; rw [upd_same]; exact fun z => by cases z
    · rw [upd_ne e]; exact h1
  ior := r.ior
theorem Rel.share {R : Rs} {Hs : Hp} {env : PEnv} {σ : L2.St} {H : Hp} {F : Nat → List Addr} {wf : List Addr} {p : Addr} {o : HO} (r : Rel cf R Hs env σ H F wf) (hs : Hs p = none) (hH : H p = some o) (hF : ∀ i, p ∉ F i) (hw : p ∉ wf) : Rel cf R (upd Hs p o) env σ H F wf where
  len := r.len
  exs := fun a u h => by
    by_cases e : a = p
    · subst e; rw [upd_same] at h; cases h; exact hH
    · rw [upd_ne e] at h; exact r.exs a u h
  ex0 := fun a u h n => Ex.new hs a u (r.ex0 a u h n)
  dom0 := r.dom0
  slot := fun j d h => by
    obtain ⟨w, h1, h2⟩ := r.slot j d h
    refine ⟨w, h1, ?_⟩
    cases q : cf.kd j with
    | S => rw [q] at h2; exact Rp.mono (Ex.new hs) h2
    | N => rw [q] at h2; exact Rp.mono (rs_mono (Ex.new hs)) h2
    | Q => rw [q] at h2; exact Rp.mono (Ex.new hs) h2
    | P => rw [q] at h2; exact h2
    | M => rw [q] at h2; exact ⟨Own.mono (rs_mono (Ex.new hs)) (Ex.refl _) h2.1, h2.2⟩
    | W => rw [q] at h2; exact h2
  nod := r.nod
  dis := r.dis
  fdom := r.fdom
  uns := fun j a h => by rw [upd_ne (fun e => by subst e; exact hF j h)]; exact r.uns j a h
  new := r.new
  volw := r.volw
  volb := r.volb
  wdom := fun a h => ⟨(r.wdom a h).1, by rw [upd_ne (fun e => by subst e; exact hw h)]; exact (r.wdom a h).2⟩
  ior := r.ior
theorem Rel.wipe {R : Rs} {Hs : Hp} {env : PEnv} {σ σ' : L2.St} {H : Hp} {F : Nat → List Addr} {wf : List Addr} {is : List Nat} (r : Rel cf R Hs env σ H F wf) (hk : ∀ i ∈ is, cf.kd i = .S) (hw : L2.wipe σ is = L2.wipe σ' is) : Rel cf R Hs (wipeE is env) (L2.wipe σ' is) H F wf where
  len := by rw [wipeE_len, ← hw, wipe_length]; exact r.len
  exs := r.exs
  ex0 := r.ex0
  dom0 := r.dom0
  slot := fun j d h => by
    obtain ⟨h1, h2⟩ := wipeE_get h
    obtain ⟨v, h3, h4⟩ := r.slot j d h1
    exact ⟨v, by rw [← hw, wipe_out h2]; exact h3, h4⟩
  nod := r.nod
  dis := r.dis
  fdom := r.fdom
  uns := r.uns
  new := r.new
  volw := r.volw
  volb := r.volb
  wdom := r.wdom
  ior := fun p h => by
    obtain ⟨h1, h2, h3, d, h4⟩ := r.ior p h
    have n0 : 0 ∉ is := fun m => by rw [hk 0 m] at h3; cases h3
    exact ⟨by rw [← hw, wipe_out n0]; exact h1, h2, h3, d, by rw [wipeE_out n0]; exact h4⟩
theorem Rel.rest {R : Rs} {Hs0 Hs : Hp} {env0 env : PEnv} {σ : L2.St} {H0 H : Hp} {F : Nat → List Addr} {wf : List Addr} {is : List Nat} (r0 : Rel cf R Hs0 env0 σ H0 F wf) (r : Rel cf R Hs env (L2.wipe σ is) H F wf) (ex : Ex Hs0 Hs) (hk : ∀ i ∈ is, cf.kd i = .S) : Rel cf R Hs (restE is env0 env) σ H F wf where
  len := by rw [restE_len]; have := r.len; rw [wipe_length] at this; exact this
  exs := r.exs
  ex0 := r.ex0
  dom0 := r.dom0
  slot := fun j d h => by
    by_cases m : j ∈ is
    · rw [restE_in m (by have := r.len; rw [wipe_length] at this; rw [this, r0.len])] at h
      obtain ⟨v, h1, h2⟩ := r0.slot j d h
      rw [hk j m] at h2 ⊢
      exact ⟨v, h1, Rp.mono ex h2⟩
    · rw [restE_out m] at h
      obtain ⟨v, h1, h2⟩ := r.slot j d h
      exact ⟨v, (wipe_some h1).1, h2⟩
  nod := r.nod
  dis := r.dis
  fdom := r.fdom
  uns := r.uns
  new := r.new
  volw := r.volw
  volb := r.volb
  wdom := r.wdom
  ior := fun p h => by
    obtain ⟨h1, h2, h3, d, h4⟩ := r.ior p h
    have n0 : 0 ∉ is := fun m => by rw [hk 0 m] at h3; cases h3
    exact ⟨(wipe_some h1).1, h2, h3, d, by rw [restE_out n0]; exact h4⟩
def Cls.sh : Cls → Bool
  | .L => false
  | .B => false
  | _ => true
theorem rg_sh {c : Cls} (h : c.sh = true) {H0 Hs Hst H H' : Hp} {wf wf' : List Addr} : rg c H0 Hs Hst H wf = rg c H0 Hs Hst H' wf' := by
  cases c <;> first | rfl | cases h
theorem rg_shm {c : Cls} (h : c.sh = true) {H0 Hs Hs' Hst H H' : Hp} {wf wf' : List Addr} (e : Ex Hs Hs') : Ex (rg c H0 Hs Hst H wf) (rg c H0 Hs' Hst H' wf') := by
  cases c with
  | V => exact rs_mono e
  | N => exact rs_mono e
  | S => exact e
  | L => cases h
  | B => cases h
theorem sdt_true : SdT cf W tYes tTrue := fun R Hs env σ H F wf r Q k => k Hs H Stp.refl r
theorem sd_lc {wi : TI} {g : TG} {tt : TT} {te : TE} {is : List Nat} {fi : M (List D)} {tg : D → M Unit} {ft : M Bool} {fe : M D} (hc : c.sh = true) (hk : ∀ i ∈ is, cf.kd i = .S) (si : SdIB cf W wi fi) (sg : SdG cf is g tg) (st : SdT cf W0 tt ft) (se : Sd cf W0 c n1 te fe) : Sd cf W c true (tLc wi g tt te is) (eLc is fi tg ft fe) := by
  refine Sd.mk (fun R Hs env σ H F wf r d env' q Q k => ?_) (fun R Hs env σ H F wf r x env' q Q k => ?_)
  · obtain ⟨ds, env1, q1, q⟩ := bnd_ok q
    have h := si R Hs env σ H F wf r
    refine (show ∀ Rk : It → Hp → Prop, (∀ J G1 Hs' H', Stp cf wf env Hs H env1 Hs' H' → Rel cf R Hs' env1 σ H' F wf → Ex G1 (rm H' wf) → ItOkW cf.K J G1 Hs' ds → Rk J H') → wi σ H Rk from fun Rk kk => by
      have h := h Rk
      rw [q1] at h
      exact h kk) _ fun J G1 Hs1 H1 s1 r1 hG it => ?_
    intro Dp hD
    cases q2 : lcGo is tg ft fe ds [] (wipeE is env1) with
    | stuck => simp only [q2] at q; cases q
    | ex x e2 => simp only [q2] at q; cases q
    | ok acc e2 =>
    simp only [q2] at q
    cases q
    have rw0 : Rel cf R Hs1 (wipeE is env1) (L2.wipe σ is) H1 F wf := r1.wipe hk rfl
    have dF : ∀ i, Dp ∉ F i := fun i m => r1.fdom i Dp m hD
    have dW : Dp ∉ wf := fun m => (r1.wdom Dp m).1 hD
    have dS : Hs1 Dp = none := r1.exs.back hD
    have dst : H Dp = none := by
      cases z : H Dp with
      | none => rfl
      | some o => exact absurd hD (s1.dom Dp (by rw [z]; exact fun y => by cases y))
    refine ⟨fun i m H' => ∃ Hs2 env2 accV acc2, i ≤ ds.length ∧ m = ds.length - i ∧ Stp cf wf (wipeE is env1) Hs1 H1 env2 Hs2 H' ∧ Rel cf R Hs2 env2 (L2.wipe σ is) H' F wf ∧ H' Dp = some (.lst accV) ∧ Hs2 Dp = none ∧ RpL cf.K true (rg c R.H0 Hs2 H H1 wf) accV acc2 ∧ lcGo is tg ft fe (ds.drop i) acc2 env2 = .ok acc e2,
      ⟨ds.length, Hs1, wipeE is env1, [], [], Nat.zero_le _, by simp, ⟨fun a h => (Ex.new hD).dom h, Ex.refl _, fun a o _ h => Ex.new hD a o h, fun _ _ => rfl, fun _ _ => rfl⟩, rw0.bump dS dF, upd_same, dS, .nil, by rw [List.drop_zero]; exact q2⟩, ?_⟩
    rintro i m H' ⟨Hs2, env2, accV, acc2, hi, rfl, s2, r2, hD2, hS2, ra, q3⟩
    have e12 : Ex G1 H' := fun a o h => by
      have h := hG a o h
      unfold rm at h
      split at h
      · cases h
      · rename_i hw; exact s2.keep a o hw h
    by_cases hlt : i < ds.length
    · refine .inr ⟨it.go i H' hlt e12, fun H'' => ∃ Hs2 env2 accV acc2, Stp cf wf (wipeE is env1) Hs1 H1 env2 Hs2 H'' ∧ Rel cf R Hs2 env2 (L2.wipe σ is) H'' F wf ∧ H'' Dp = some (.lst accV) ∧ Hs2 Dp = none ∧ RpL cf.K true (rg c R.H0 Hs2 H H1 wf) accV acc2 ∧ lcGo is tg ft fe (ds.drop (i + 1)) acc2 env2 = .ok acc e2, fun H'' hN => ?_, fun x H3 y => ?_⟩
      · obtain ⟨Hs3, env3, accV3, acc3, z⟩ := hN
        exact ⟨ds.length - (i + 1), by omega, Hs3, env3, accV3, acc3, hlt, rfl, z⟩
      · obtain ⟨eg, hy⟩ := it.yld i H' x H3 e12 hlt y
        obtain ⟨d, hd, hr⟩ := hy Hs2 s2.ex r2.exs
        have ed : ds.drop i = d :: ds.drop (i + 1) := by
          rw [List.drop_eq_getElem_cons hlt]
          rw [List.getElem?_eq_getElem hlt] at hd
          cases hd
          rfl
        rw [ed, lcGo] at q3
        obtain ⟨u, env3, qt, q4⟩ := bnd_ok q3
        obtain ⟨b, env4, qb, q5⟩ := bnd_ok q4
        have r3 := r2.grow eg
        have s3 : Stp cf wf env2 Hs2 H' env2 (grow Hs2 H' H3) H3 := Stp.grow r2.exs eg
        have hD3 : H3 Dp = some (.lst accV) := eg _ _ hD2
        have hS3 : grow Hs2 H' H3 Dp = none := by rw [grow_some hD2]; exact hS2
        have hg := sg R _ env2 (L2.wipe σ is) H3 F wf r3 d x hr
        refine (show ∀ Q : L2.St → Hp → Prop, (∀ σ', Rel cf R (grow Hs2 H' H3) env3 σ' H3 F wf → L2.wipe σ' is = L2.wipe (L2.wipe σ is) is → (∀ j, j ∉ is → env3[j]? = env2[j]?) → Q σ' H3) → g x (L2.wipe σ is) H3 Q from fun Q kk => by
          have hg := hg Q
          rw [qt] at hg
          exact hg kk) _ fun σ2 r4 w4 kj => ?_
        have ww : L2.wipe (L2.wipe σ is) is = L2.wipe σ is := by
          have : ∀ (js : List Nat), (∀ j ∈ js, j ∈ is) → L2.wipe (L2.wipe σ is) js = L2.wipe σ is := by
            intro js
            induction js with
            | nil => intro _; rfl
            | cons v vs ih =>
              intro hj
              show (L2.wipe (L2.wipe σ is) vs).set v none = L2.wipe σ is
              rw [ih fun j m => hj j (List.mem_cons_of_mem _ m)]
              apply List.ext_getElem?
              intro j
              by_cases e : v = j
              · subst e
                by_cases hl : v < (L2.wipe σ is).length
                · rw [List.getElem?_set_self hl]
                  cases z : (L2.wipe σ is)[v]? with
                  | none => rw [List.getElem?_eq_getElem hl] at z; cases z
                  | some o =>
                    cases o with
                    | none => rfl
                    | some w => exact absurd (hj v List.mem_cons_self) (wipe_some z).2
                · rw [List.getElem?_eq_none (by rw [List.length_set]; omega), List.getElem?_eq_none (by omega)]
              · rw [List.getElem?_set_ne e]
          exact this is fun _ m => m
        rw [ww] at w4
        refine ⟨w4, ?_⟩
        have kp4 : ∀ j, cf.kd j ≠ .W → j ∉ is → env3[j]? = (wipeE is env1)[j]? := fun j hj hn => (kj j hn).trans (s2.kp j hj)
        refine st.ok r4 qb fun Hs5 H5 s5 r5 => ?_
        have hD5 : H5 Dp = some (.lst accV) := s5.keep _ _ dW hD3
        have hS5 : Hs5 Dp = none := by rw [s5.same Dp (by rw [hD3]; exact fun z => by cases z)]; exact hS3
        -- what holds behind a turn
        have fin : ∀ (Hs6 H6 : Hp) (env6 : PEnv) (accV6 : List V) (acc6 : List D), Stp cf wf env4 Hs5 H5 env6 Hs6 H6 → Rel cf R Hs6 env6 σ2 H6 F wf → RpL cf.K true (rg c R.H0 Hs6 H H1 wf) accV6 acc6 → lcGo is tg ft fe (ds.drop (i + 1)) acc6 (wipeE is env6) = .ok acc e2 → ∀ H7, (H7 = H6 ∧ accV6 = accV ∨ H7 = upd H6 Dp (.lst accV6)) →
            ∃ Hs2 env2 accV acc2, Stp cf wf (wipeE is env1) Hs1 H1 env2 Hs2 H7 ∧ Rel cf R Hs2 env2 (L2.wipe σ is) H7 F wf ∧ H7 Dp = some (.lst accV) ∧ Hs2 Dp = none ∧ RpL cf.K true (rg c R.H0 Hs2 H H1 wf) accV acc2 ∧ lcGo is tg ft fe (ds.drop (i + 1)) acc2 env2 = .ok acc e2 := by
          intro Hs6 H6 env6 accV6 acc6 s6 r6 ra6 q6 H7 h7
          have hD6 : H6 Dp = some (.lst accV) := s6.keep _ _ dW hD5
          have hS6 : Hs6 Dp = none := by rw [s6.same Dp (by rw [hD5]; exact fun z => by cases z)]; exact hS5
          have r6w : Rel cf R Hs6 (wipeE is env6) (L2.wipe σ is) H6 F wf := r6.wipe hk w4
          have kpw : ∀ j, cf.kd j ≠ .W → (wipeE is env6)[j]? = (wipeE is env1)[j]? := fun j hj => by
            by_cases m : j ∈ is
            · have hl : (wipeE is env6).length = (wipeE is env1).length := by rw [r6w.len, rw0.len]
              cases z : (wipeE is env6)[j]? with
              | none => rw [List.getElem?_eq_none_iff] at z; rw [List.getElem?_eq_none (by omega)]
              | some o =>
                cases o with
                | some w => exact absurd m (wipeE_get z).2
                | none =>
                  cases z2 : (wipeE is env1)[j]? with
                  | none => rw [List.getElem?_eq_none_iff] at z2; rw [List.getElem?_eq_none (by omega)] at z; cases z
                  | some o2 =>
                    cases o2 with
                    | some w => exact absurd m (wipeE_get z2).2
                    | none => rfl
            · rw [wipeE_out m, s6.kp j hj, s5.kp j hj, kp4 j hj m]
          have keep6 : ∀ a o, a ∉ wf → H1 a = some o → H6 a = some o := fun a o hw h => s6.keep a o hw (s5.keep a o hw (s3.keep a o hw (s2.keep a o hw h)))
          have dom6 : ∀ a, H1 a ≠ none → H6 a ≠ none := fun a h => s6.dom a (s5.dom a (s3.dom a (s2.dom a h)))
          have ex6 : Ex Hs1 Hs6 := ((s2.ex.trans s3.ex).trans s5.ex).trans s6.ex
          have same6 : ∀ a, H1 a ≠ none → Hs6 a = Hs1 a := fun a h => ((s6.same a (s5.dom a (s3.dom a (s2.dom a h)))).trans (s5.same a (s3.dom a (s2.dom a h)))).trans ((s3.same a (s2.dom a h)).trans (s2.same a h))
          rcases h7 with ⟨rfl, rfl⟩ | rfl
          · exact ⟨Hs6, wipeE is env6, accV6, acc6, ⟨dom6, ex6, keep6, same6, kpw⟩, r6w, hD6, hS6, ra6, q6⟩
          · refine ⟨Hs6, wipeE is env6, accV6, acc6, ⟨fun a h => ?_, ex6, fun a o hw h => ?_, same6, kpw⟩, r6w.bump hS6 dF, upd_same, hS6, ra6, q6⟩
            · have : a ≠ Dp := fun e => by subst e; exact h hD
              rw [upd_ne this]; exact dom6 a h
            · have : a ≠ Dp := fun e => by subst e; rw [hD] at h; cases h
              rw [upd_ne this]; exact keep6 a o hw h
        have ra5 : RpL cf.K true (rg c R.H0 Hs5 H H1 wf) accV acc2 := ra.mono (rg_shm hc (s3.ex.trans s5.ex))
        cases b with
        | false => exact fin Hs5 H5 env4 accV acc2 Stp.refl r5 ra5 q5 H5 (.inl ⟨rfl, rfl⟩)
        | true =>
          obtain ⟨y6, env6, qe, q6⟩ := bnd_ok q5
          obtain ⟨u2, env7, ql, q7⟩ := bnd_ok q6
          obtain ⟨ql, rfl⟩ := lift_ok ql
          split at ql
          · rename_i hl
            refine se.ok r5 qe fun v6 Hs6 H6 s6 r6 p6 _ => ?_
            refine ⟨accV, s6.keep _ _ dW hD5, by rw [ra.length]; exact lim_lt hl, ?_⟩
            have dd : ∀ a, H a ≠ none → H5 a ≠ none := fun a h => s5.dom a (s3.dom a (s2.dom a (s1.dom a h)))
            have p6' : Rp cf.K true (rg c R.H0 Hs6 H H1 wf) v6 y6 := by
              have := p6.mono (rg_start dd)
              rw [rg_sh hc (H' := H1) (wf' := wf)] at this
              exact this
            exact fin Hs6 H6 env7 (accV ++ [v6]) (acc2 ++ [y6]) s6 r6 ((ra5.mono (rg_shm hc s6.ex)).append (.cons p6' .nil)) q7 _ (.inr rfl)
          · cases ql
    · have e : i = ds.length := by omega
      subst e
      rw [List.drop_length, lcGo] at q3
      cases q3
      refine .inl ⟨it.stop H' e12, ?_⟩
      have exn : Ex Hs2 (upd Hs2 Dp (.lst accV)) := Ex.new hS2
      have r6 : Rel cf R (upd Hs2 Dp (.lst accV)) e2 (L2.wipe σ is) H' F wf := r2.share hS2 hD2 dF dW
      have r7 : Rel cf R (upd Hs2 Dp (.lst accV)) (restE is env1 e2) σ H' F wf := Rel.rest r1 r6 (s2.ex.trans exn) hk
      have hroot : rg c R.H0 (upd Hs2 Dp (.lst accV)) H H1 wf Dp = some (.lst accV) := by
        have h0 : R.H0 Dp = none := by
          cases z : R.H0 Dp with
          | none => rfl
          | some o => exact absurd hD (r1.dom0 Dp (by rw [z]; exact fun y => by cases y))
        cases c with
        | V => show rs _ _ Dp = _; rw [rs_none dst, upd_same]
        | N => show rs _ _ Dp = _; rw [rs_none h0, upd_same]
        | S => exact upd_same
        | L => cases hc
        | B => cases hc
      refine k (.ref Dp) (upd Hs2 Dp (.lst accV)) H' ⟨fun a h => s2.dom a (s1.dom a h), (s1.ex.trans s2.ex).trans exn, fun a o hw h => s2.keep a o hw (s1.keep a o hw h), fun a h => ?_, fun j hj => ?_⟩ r7 ?_ ?_
      · rw [upd_ne (fun e => by subst e; exact h dst), s2.same a (s1.dom a h), s1.same a h]
      · by_cases m : j ∈ is
        · rw [restE_in m (by have := r6.len; rw [wipe_length] at this; rw [this, r1.len])]; exact s1.kp j hj
        · rw [restE_out m, s2.kp j hj, wipeE_out m]; exact s1.kp j hj
      · rw [rg_sh hc (H' := H1) (wf' := wf)]
        exact .lst hroot (ra.mono (rg_shm hc exn))
      · intro _ hf
        refine .lst (show rs (upd Hs2 Dp (.lst accV)) H Dp = _ by rw [rs_none dst, upd_same]) (ra.sc_any hf _ _)
  · rcases bnd_ex q with q | ⟨ds, env1, q1, q⟩
    · have h := si R Hs env σ H F wf r
      have h := h fun J H1 => ∀ D, H1 D = none → ∃ W : Nat → Nat → Hp → Prop, (∃ m, W 0 m (upd H1 D (.lst []))) ∧ ∀ i m H, W i m H → (J.stop i H ∧ Q (.ref D) H) ∨ (J.go i H ∧ ∃ Nx : Hp → Prop, (∀ H', Nx H' → ∃ m', m' < m ∧ W (i + 1) m' H') ∧ ∀ x H', J.yld i H x H' → g x (L2.wipe σ is) H' fun σ2 H2 => L2.wipe σ2 is = L2.wipe σ is ∧ tt σ2 H2 fun b H3 => if b = true then te σ2 H3 fun y H4 => ∃ acc, H4 D = some (.lst acc) ∧ acc.length < sizeLine ∧ Nx (upd H4 D (.lst (acc ++ [y]))) else Nx H3)
      rw [q] at h
      exact h k
    · split at q <;> cases q
end
end MV
namespace MV
open PySem PySem.Spec PyProof.Rows L2
section
variable {X : Cx} {cf : Cf} {W : WX} {c : Cls} {n n1 n2 : Bool}
structure STs (X : Cx) (cf : Cf) (W : WX) (es : List Expr) (t : TT) (f : M Bool) : Prop where
  p : PTs X es t
  s : SdT cf W t f
theorem sts_nil : STs X cf W [] tYes tTrue := ⟨pts_nil, sdt_true⟩
theorem sts_one {e : Expr} {t : TT} {f : M Bool} (h : ST X cf W e t f) : STs X cf W [e] t f := ⟨pts_one h.p, h.s⟩
theorem se_lc {elt tg iter : Expr} {ifs : List Expr} {scope : Scope} {own : List (Str × Nat)} {pos : Pos} {wi : TI} {g : TG} {tt : TT} {te : TE} {fi : M (List D)} {ftg : D → M Unit} {ft : M Bool} {fe : M D} (hsh : c.sh = true) (hk : ∀ i ∈ own.map (·.2), cf.kd i = .S) (hc : X.calm = true) (hN : X.N.Nodup) (hi : SIB X cf W tg iter wi fi) (ok : BlkOk X.N X.env.scope scope own)
    (hg : ∀ (s : Shared) (H : Hp) (C : Addr) (cl : List (Str × Addr)) (fp : List Addr), SGt (X.blk s H scope (compEnvC scope cl C X.env) fp) cf (own.map (·.2)) tg g ftg) (ht : ∀ (s : Shared) (H : Hp) (C : Addr) (cl : List (Str × Addr)) (fp : List Addr), STs (X.blk s H scope (compEnvC scope cl C X.env) fp) cf W0 ifs tt ft)
    (he : ∀ (s : Shared) (H : Hp) (C : Addr) (cl : List (Str × Addr)) (fp : List Addr), SE (X.blk s H scope (compEnvC scope cl C X.env) fp) cf W0 c n1 elt te fe) (hs : ∀ x, foldedSetIterable iter X.env x = pure x := by intro _; rfl) :
    SE X cf W c true (.ListComp elt [⟨tg, iter, ifs, 0⟩] scope pos) (tLc wi g tt te (own.map (·.2))) (eLc (own.map (·.2)) fi ftg ft fe) :=
  ⟨pe_lc hc hN hi.p ok (fun s H C cl fp => (hg s H C cl fp).p) (fun s H C cl fp => (ht s H C cl fp).p) (fun s H C cl fp => (he s H C cl fp).p) hs,
   sd_lc hsh hk hi.s (hg X.s_0 X.H_0 0 [] []).s (ht X.s_0 X.H_0 0 [] []).s (he X.s_0 X.H_0 0 [] []).s⟩
theorem sg_lc {i : Nat} {y : Str} {py : Pos} {elt tg iter : Expr} {ifs : List Expr} {scope : Scope} {own : List (Str × Nat)} {pos spos : Pos} {wi : TI} {g : TG} {tt : TT} {te : TE} {fi : M (List D)} {ftg : D → M Unit} {ft : M Bool} {fe : M D} (hsh : c.sh = true) (hk : ∀ i ∈ own.map (·.2), cf.kd i = .S) (hc : X.calm = true) (hN : X.N.Nodup) (hy : X.N[i]? = some y) (hyl : X.env.scope.names.lookup y = some .local)
    (hsw : swapsWith (.ListComp elt [⟨tg, iter, ifs, 0⟩] scope pos) (some (.Name y py)) spos.line X.env = pure true) (hi : SIB X cf W tg iter wi fi) (ok : BlkOk X.N X.env.scope scope own)
    (hg : ∀ (s : Shared) (H : Hp) (C : Addr) (cl : List (Str × Addr)) (fp : List Addr), SGt (X.blk s H scope (compEnvC scope cl C X.env) fp) cf (own.map (·.2)) tg g ftg) (ht : ∀ (s : Shared) (H : Hp) (C : Addr) (cl : List (Str × Addr)) (fp : List Addr), STs (X.blk s H scope (compEnvC scope cl C X.env) fp) cf W0 ifs tt ft)
    (he : ∀ (s : Shared) (H : Hp) (C : Addr) (cl : List (Str × Addr)) (fp : List Addr), SE (X.blk s H scope (compEnvC scope cl C X.env) fp) cf W0 c n1 elt te fe) (hs : ∀ x, foldedSetIterable iter X.env x = pure x := by intro _; rfl) :
    SG X cf W c true i (.Assign [.Name y py] (.ListComp elt [⟨tg, iter, ifs, 0⟩] scope pos) spos) (eLc (own.map (·.2)) fi ftg ft fe) :=
  ⟨_, ps_setLc hc hN hy hyl hsw hi.p ok (fun s H C cl fp => (hg s H C cl fp).p) (fun s H C cl fp => (ht s H C cl fp).p) (fun s H C cl fp => (he s H C cl fp).p) hs,
   sd_lc hsh hk hi.s (hg X.s_0 X.H_0 0 [] []).s (ht X.s_0 X.H_0 0 [] []).s (he X.s_0 X.H_0 0 [] []).s⟩
theorem SG.flat {i : Nat} {st : Stmt} {f : M D} (h : SG X cf W c true i st f) : SG X cf W .V true i st (eF f) := by
  obtain ⟨t, p, s⟩ := h
  refine ⟨t, p, fun R Hs env σ H F wf r Q => ?_⟩
  have h := s R Hs env σ H F wf r Q
  cases q : f env with
  | ok d env' =>
    rw [q] at h
    cases hf : d.flat with
    | true =>
      have e1 : eF f env = .ok d env' := by simp [eF, bnd, lift, q, hf]
      rw [e1]
      exact fun k => h fun v Hs' H' st r' p nr => k v Hs' H' st r' (nr rfl hf) nr
    | false =>
      have e1 : eF f env = .stuck := by simp [eF, bnd, lift, q, hf]
      rw [e1]
      trivial
  | ex x env' =>
    rw [q] at h
    have e1 : eF f env = .ex x env' := by simp [eF, bnd, q]
    rw [e1]
    exact h
  | stuck =>
    have e1 : eF f env = .stuck := by simp [eF, bnd, q]
    rw [e1]
    trivial
def lstAt (i : Nat) (e : PEnv) : Option (List D) := match e[i]? with
  | some (some (.lst ds)) => some ds
  | _ => none
theorem lstAt_some {i : Nat} {e : PEnv} {ds : List D} (h : lstAt i e = some ds) : e[i]? = some (some (.lst ds)) := by
  unfold lstAt at h
  split at h
  · rename_i q; cases h; exact q
  · cases h
def sApp (i : Nat) (f : M D) : M Fl := fun e => match lstAt i e with
  | none => .stuck
  | some _ => bnd f (fun d => fun e => match lstAt i e with
    | some ds => if ds.length < LIM then .ok .nx (e.set i (some (.lst (ds ++ [d])))) else .stuck
    | none => .stuck) e
def sPut (i : Nat) (fv fi : M D) : M Fl := bnd fv fun d => fun e => match lstAt i e with
  | none => .stuck
  | some _ => bnd fi (fun k => fun e => match lstAt i e, k with
    | some ds, .int z => match ixN ds.length z with
      | some j => .ok .nx (e.set i (some (.lst (ds.set j d))))
      | none => .stuck
    | _, _ => .stuck) e
def sPutW (i : Nat) (fv fi : M D) : M Fl := bnd fv fun d => fun e => match lstAt i e with
  | none => .stuck
  | some _ => bnd fi (fun k => fun e => match lstAt i e, k with
    | some ds, .int z => match ixN ds.length z with
      | some j => if d.sc then .ok .nx (e.set i (some (.lst (ds.set j d)))) else .stuck
      | none => .stuck
    | _, _ => .stuck) e
theorem own_listW {R : Rs} {Hs : Hp} {env : PEnv} {σ : L2.St} {H : Hp} {F : Nat → List Addr} {wf : List Addr} {i : Nat} {d : D} (r : Rel cf R Hs env σ H F wf) (hk : cf.kd i = .W) (h : env[i]? = some (some d)) : ∃ p xs ds, d = .lst ds ∧ σ[i]? = some (some (.ref p)) ∧ F i = [p] ∧ H p = some (.lst xs) ∧ ds.all D.sc = true ∧ RpL cf.K true emp xs ds := by
  obtain ⟨v, h1, h2⟩ := r.slot i _ h
  rw [hk] at h2
  obtain ⟨p, xs, ds, e1, e2, e3, e4, e5, e6⟩ := h2
  subst e1
  exact ⟨p, xs, ds, e2, h1, e3, e4, e5, e6⟩
theorem OwnL.app {K : PySem.W.Frag} {Hn H : Hp} : ∀ {F : List Addr} {xs ys : List V} {ds es : List D}, OwnL K Hn H F xs ds → RpL K true Hn ys es → OwnL K Hn H F (xs ++ ys) (ds ++ es)
  | _, _, _, _, _, .nil, h => ownL_of h
  | _, _, _, _, _, .cons h r, h2 => OwnL.cons h (OwnL.app r h2)
theorem OwnL.off {K : PySem.W.Frag} {Hn H : Hp} {p : Addr} {o : HO} {F : List Addr} {xs : List V} {ds : List D} (h : OwnL K Hn H F xs ds) (hp : p ∉ F) : OwnL K Hn (upd H p o) F xs ds := h.keep (Ex.refl _) fun a m u e => by
  rw [upd_ne (fun z => hp (by rw [← z]; exact m))]; exact e
theorem emp_ex (G : Hp) : Ex emp G := fun a o h => by cases h
theorem OwnL.length {K : PySem.W.Frag} {Hn H : Hp} : ∀ {F : List Addr} {xs : List V} {ds : List D}, OwnL K Hn H F xs ds → xs.length = ds.length
  | _, _, _, .nil => rfl
  | _, _, _, .cons _ r => by rw [List.length_cons, List.length_cons, OwnL.length r]
theorem ss_putW {i : Nat} {o ix e : Expr} {te ti : TE} {f fi : M D} {spos pos : Pos} (po : PE X o (tVar i)) (hk : cf.kd i = .W) (h : SE X cf W c n e te f) (hi : SE X cf W c n1 ix ti fi)
    (ha : ∀ v, assign (.Subscript o ix spos) X.env v = (do
      let ov ← holding [v] (eval o X.env)
      let iv ← holding [v, ov] (eval ix X.env)
      standAt spos
      holding [v, ov, iv] (setItem ov iv v)
      release [v, ov, iv] []) := by intro _; rfl)
    (hs : swapsWithSole [.Subscript o ix spos] e pos.line X.env = pure false := by rfl) (hw : swappedStores [.Subscript o ix spos] e X.env = pure none := by rfl)
    (h1 : (assignEach [.Subscript o ix spos] X.env).map (·.2) = [assign (.Subscript o ix spos) X.env] := by rfl) :
    SS X cf W (.Assign [.Subscript o ix spos] e pos) (sPutW i f fi) := by
  refine ⟨_, ps_asg h.p (pg_sub po hi.p set_list ha) hs hw h1, fun R Hs env σ H F wf r D hp => ?_⟩
  refine h.s.bind r hp fun d env1 v Hs1 H1 s1 r1 p1 _ hp => ?_
  cases q0 : lstAt i env1 with
  | none => simp only [q0] at hp; exact hp.elim
  | some ds0 =>
    simp only [q0] at hp
    obtain ⟨p0, xs0, dz, _, a1, a2, a3, a4, a5⟩ := own_listW r1 hk (lstAt_some q0)
    refine ⟨.ref p0, a1, ?_⟩
    refine hi.s.bind r1 (Post.mono s1.ex hp) fun k env2 vk Hs2 H2 s2 r2 p2 _ hp => ?_
    cases q : lstAt i env2 with
    | none => simp only [q] at hp; exact hp.elim
    | some ds =>
      simp only [q] at hp
      cases k with
      | int z =>
        simp only at hp
        cases qj : ixN ds.length z with
        | none => simp only [qj] at hp; exact hp.elim
        | some j =>
          simp only [qj] at hp
          split at hp
          · rename_i hsc
            obtain ⟨p, xs, ds', e1, h1, h2, h3, h4, h5⟩ := own_listW r2 hk (lstAt_some q)
            cases e1
            have ep : p = p0 := by rw [h1] at a1; cases a1; rfl
            subst ep
            refine ⟨p, xs, z, j, rfl, p2.int_inv, h3, by rw [h5.length]; exact qj, ?_⟩
            exact hp Hs2 σ _ F wf s2.ex (r2.mut (i := i) (p := p) (v := .ref p) (d0 := .lst ds) (by rw [h2]; exact List.mem_cons_self) (lstAt_some q) h1 (by
                rw [hk, h2]
                refine ⟨p, _, _, rfl, rfl, rfl, upd_same, ?_, h5.set j (p1.sc_any hsc _ _)⟩
                rw [List.all_eq_true]
                intro y hy
                rcases List.mem_or_eq_of_mem_set hy with hy | hy
                · exact List.all_eq_true.mp h4 y hy
                · rw [hy]; exact hsc))
          · exact hp.elim
      | _ => exact hp.elim
def eIxW (i : Nat) (f : M D) : M D := fun e => match lstAt i e with
  | none => .stuck
  | some _ => bnd f (fun k => fun e => match lstAt i e, k with
    | some ds, .int z => lift (atI ds z) e
    | _, _ => .stuck) e
theorem atI_mem {α : Type} {l : List α} {i : Int} {x : α} (h : atI l i = some x) : x ∈ l := by
  obtain ⟨j, _, h2, _⟩ := atI_get h
  exact List.mem_of_getElem? h2
theorem se_ixW {i : Nat} {o ix : Expr} {ti : TE} {f : M D} {pos : Pos} (hK : cf.K = X.K) (po : PE X o (tVar i)) (hk : cf.kd i = .W) (h : SE X cf W c n ix ti f) (hs : PlainIx ix) : SE X cf W .V true (.Subscript o ix pos) (tOp (rIx cf.K) (tVar i) ti) (eIxW i f) := by
  rw [hK]
  refine ⟨pe_ix ix_seq po h.p hs, Sd.mk (fun R Hs env σ H F wf r d env' q Q k => ?_) (fun R Hs env σ H F wf r x env' q Q k => ?_)⟩
  · unfold eIxW at q
    cases q0 : lstAt i env with
    | none => simp only [q0] at q; cases q
    | some ds0 =>
      simp only [q0] at q
      obtain ⟨p0, xs0, dz, _, a1, a2, a3, a4, a5⟩ := own_listW r hk (lstAt_some q0)
      refine ⟨.ref p0, a1, ?_⟩
      obtain ⟨kd, env1, q1, q2⟩ := bnd_ok q
      refine h.s.ok r q1 fun v Hs1 H1 s1 r1 p1 _ => ?_
      cases q3 : lstAt i env1 with
      | none => simp only [q3] at q2; cases q2
      | some ds =>
        simp only [q3] at q2
        cases kd with
        | int z =>
          obtain ⟨qg, rfl⟩ := lift_ok q2
          obtain ⟨p, xs, ds', e1, h1, h2, h3, h4, h5⟩ := own_listW r1 hk (lstAt_some q3)
          cases e1
          have ep : p = p0 := by rw [h1] at a1; cases a1; rfl
          subst ep
          obtain ⟨w, hw, hr⟩ := atI_rp h5 qg
          have hsc : d.sc = true := List.all_eq_true.mp h4 d (atI_mem qg)
          exact .inl ⟨p, xs, z, w, rfl, p1.int_inv, .inl (.inl h3), hw, k w Hs1 H1 s1 r1 (hr.sc_any hsc _ _) fun _ _ => hr.sc_any hsc _ _⟩
        | _ => cases q2
  · unfold eIxW at q
    cases q0 : lstAt i env with
    | none => simp only [q0] at q; cases q
    | some ds0 =>
      simp only [q0] at q
      obtain ⟨p0, xs0, dz, _, a1, a2, a3, a4, a5⟩ := own_listW r hk (lstAt_some q0)
      refine ⟨.ref p0, a1, ?_⟩
      rcases bnd_ex q with q | ⟨kd, env1, q1, q2⟩
      · exact h.s.exn r q k
      · cases q3 : lstAt i env1 with
        | none => simp only [q3] at q2; cases q2
        | some ds =>
          simp only [q3] at q2
          cases kd with
          | int z => exact (lift_ex q2).elim
          | _ => cases q2
end
end MV
namespace MV
open PySem PySem.Spec PyProof.Rows L2
def spP (K : PySem.W.Frag) (cv : Str → Value) (m : Nat) (F : List D → FR) : Sp := fun vs H Q E => vs.length = m ∧ ∃ ds, RpL K true H vs ds ∧ match F ds with
  | .ok d _ => ∀ v H', Ex H H' → Rp K true (nw H H') v d → Q v H'
  | .ex x _ => ∀ H', Ex H H' → E (cv x) none H'
  | .stuck => False
def spW (K : PySem.W.Frag) (cv : Str → Value) (m : Nat) (F : List D → FR) : Sp := fun vs H Q E => vs.length = m ∧ ∃ p xs ds0 vs' ds, vs = .ref p :: vs' ∧ H p = some (.lst xs) ∧ ds0.all D.sc = true ∧ RpL K true emp xs ds0 ∧ RpL K true (rm H [p]) vs' ds ∧ match F (.lst ds0 :: ds) with
  | .ok d io => ∀ v H' xs' ds', io = .lst ds' → ds'.all D.sc = true → RpL K true emp xs' ds' → Ex (upd H p (.lst xs')) H' → Rp K true (nw H H') v d → Q v H'
  | .ex x io => ∀ H' xs' ds', io = .lst ds' → ds'.all D.sc = true → RpL K true emp xs' ds' → Ex (upd H p (.lst xs')) H' → E (cv x) none H'
  | .stuck => False
def spQ (K : PySem.W.Frag) (cv : Str → Value) (m : Nat) (F : List D → FR) : Sp := fun vs H Q E => vs.length = m ∧ ∃ v0 vs' d0 ds, vs = v0 :: vs' ∧ Rp K false H v0 d0 ∧ RpL K true H vs' ds ∧ match F (d0 :: ds) with
  | .ok d _ => ∀ v H', Ex H H' → Rp K true (nw H H') v d → Q v H'
  | .ex x _ => ∀ H', Ex H H' → E (cv x) none H'
  | .stuck => False
def frD (r : FR) : M D := fun e => match r with
  | .ok d _ => .ok d e
  | .ex x _ => .ex x e
  | .stuck => .stuck
def eCall (F : List D → FR) (a : M (List D)) : M D := bnd a fun ds => frD (F ds)
def frW (i : Nat) (r : FR) : M D := fun e => match r with
  | .ok d io => if wok io then .ok d (e.set i (some io)) else .stuck
  | .ex x io => if wok io then .ex x (e.set i (some io)) else .stuck
  | .stuck => .stuck
def eCallW (F : List D → FR) (i : Nat) (a : M (List D)) : M D := fun e => match lstAt i e with
  | none => .stuck
  | some _ => bnd a (fun ds => fun e => match lstAt i e with
    | some ds0 => frW i (F (.lst ds0 :: ds)) e
    | none => .stuck) e
section
variable {X : Cx} {cf : Cf} {W : WX} {c : Cls} {n n1 n2 : Bool}
theorem nw_rs {Hs H H1 H' : Hp} (d : ∀ a, H a ≠ none → H1 a ≠ none) : Ex (nw H1 H') (rs (grow Hs H1 H') H) := fun a o h => by
  cases q : H1 a with
  | some u => rw [nw_some q] at h; cases h
  | none =>
    rw [nw_none q] at h
    have : H a = none := by
      cases z : H a with
      | none => rfl
      | some u => exact absurd q (d a (by rw [z]; exact fun y => by cases y))
    rw [rs_none this, grow_none q]; exact h
theorem sd_call {F : List D → FR} {m : Nat} {ta : TA} {fa : M (List D)} (h : SdA cf W .B ta fa) (hm : ∀ ds env env', fa env = .ok ds env' → ds.length = m) : Sd cf W .V true (tCallS (spP cf.K cf.cv m F) (WE W) ta) (eCall F fa) := by
  refine Sd.mk (fun R Hs env σ H F0 wf r d env' q Q k => ?_) (fun R Hs env σ H F0 wf r x env' q Q k => ?_)
  · obtain ⟨ds, env1, q1, q2⟩ := bnd_ok q
    refine h.ok r q1 fun vs Hs1 H1 s1 r1 p1 => ?_
    refine ⟨by rw [p1.length]; exact hm _ _ _ q1, ds, p1.mono (rm_sub _ _), ?_⟩
    cases qf : F ds with
    | ok d' io =>
      rw [qf] at q2
      cases q2
      intro v H' x pv
      have pv' : Rp cf.K true (rs (grow Hs1 H1 H') H) v d := pv.mono (nw_rs s1.dom)
      exact k v (grow Hs1 H1 H') H' (s1.trans (Stp.grow r1.exs x)) (r1.grow x) pv' fun _ _ => pv'
    | ex x io => rw [qf] at q2; cases q2
    | stuck => rw [qf] at q2; cases q2
  · rcases bnd_ex q with q | ⟨ds, env1, q1, q2⟩
    · exact h.exn r q k
    · refine h.ok r q1 fun vs Hs1 H1 s1 r1 p1 => ?_
      refine ⟨by rw [p1.length]; exact hm _ _ _ q1, ds, p1.mono (rm_sub _ _), ?_⟩
      cases qf : F ds with
      | ok d' io => rw [qf] at q2; cases q2
      | ex x' io =>
        rw [qf] at q2
        cases q2
        intro H' x
        exact k (grow Hs1 H1 H') H' (s1.trans (Stp.grow r1.exs x)) (r1.grow x)
      | stuck => rw [qf] at q2; cases q2
theorem sd_callW {F : List D → FR} {m i : Nat} {ta : TA} {fa : M (List D)} (hk : cf.kd i = .W) (h : SdA cf W .B ta fa) (hm : ∀ ds env env', fa env = .ok ds env' → ds.length + 1 = m) : Sd cf W .V true (tCallS (spW cf.K cf.cv m F) (WE W) (tCons (tVar i) ta)) (eCallW F i fa) := by
  have args : ∀ {R : Rs} {Hs1 H1 : Hp} {env1 : PEnv} {σ : L2.St} {F0 : Nat → List Addr} {wf : List Addr} {vs : List V} {ds : List D} {p : Addr}, Rel cf R Hs1 env1 σ H1 F0 wf → F0 i = [p] → RpL cf.K true (rm H1 wf) vs ds → RpL cf.K true (rm H1 [p]) vs ds := fun {R Hs1 H1 env1 σ F0 wf vs ds p} r1 e pa => pa.mono fun a o ha => by
    unfold rm at ha ⊢
    split at ha
    · cases ha
    · rename_i hw
      rw [if_neg (fun m => hw (r1.volw i hk a (by rw [e]; exact m)))]
      exact ha
  have after : ∀ {R : Rs} {Hs1 H1 H' : Hp} {env1 : PEnv} {σ : L2.St} {F0 : Nat → List Addr} {wf : List Addr} {p : Addr} {xs' : List V} {ds0 ds' : List D}, Rel cf R Hs1 env1 σ H1 F0 wf → lstAt i env1 = some ds0 → σ[i]? = some (some (.ref p)) → F0 i = [p] → ds'.all D.sc = true → RpL cf.K true emp xs' ds' → Ex (upd H1 p (.lst xs')) H' →
      Stp cf wf env1 Hs1 H1 (env1.set i (some (.lst ds'))) (grow Hs1 H1 H') H' ∧ Rel cf R (grow Hs1 H1 H') (env1.set i (some (.lst ds'))) σ H' F0 wf := by
    intro R Hs1 H1 H' env1 σ F0 wf p xs' ds0 ds' r1 q0 hv hF hsc hr x
    have hp : p ∈ F0 i := by rw [hF]; exact List.mem_singleton.mpr rfl
    have r2 := r1.mut (i := i) (p := p) (o' := .lst xs') (v := .ref p) (d' := .lst ds') hp (lstAt_some q0) hv (by rw [hk, hF]; exact ⟨p, xs', ds', rfl, rfl, rfl, upd_same, hsc, hr⟩)
    have r3 := r2.grow x
    have eg : grow Hs1 (upd H1 p (.lst xs')) H' = grow Hs1 H1 H' := by
      funext a
      by_cases e : a = p
      · subst e
        have h1 : H1 a ≠ none := r1.fdom i a hp
        cases z : H1 a with
        | none => exact absurd z h1
        | some o => rw [grow_some z, grow_some (upd_same (H := H1) (a := a) (o := .lst xs'))]
      · unfold grow
        rw [upd_ne e]
    rw [eg] at r3
    refine ⟨⟨fun a h => ?_, ?_, fun a o hw h => ?_, fun a h => ?_, fun j hj => ?_⟩, r3⟩
    · by_cases e : a = p
      · subst e; exact x.dom (by rw [upd_same]; exact fun z => by cases z)
      · exact x.dom (by rw [upd_ne e]; exact h)
    · intro a o h
      rw [grow_some (r1.exs a o h)]; exact h
    · have : a ≠ p := fun e => by subst e; exact hw (r1.volw i hk _ hp)
      exact x a o (by rw [upd_ne this]; exact h)
    · cases z : H1 a with
      | none => exact absurd z h
      | some o => rw [grow_some z]
    · rw [List.getElem?_set_ne (fun e => by subst e; exact hj hk)]
  refine Sd.mk (fun R Hs env σ H F0 wf r d env' q Q k => ?_) (fun R Hs env σ H F0 wf r x env' q Q k => ?_)
  · unfold eCallW at q
    cases q0 : lstAt i env with
    | none => simp only [q0] at q; cases q
    | some ds00 =>
      simp only [q0] at q
      obtain ⟨p0, xs0, dz, _, a1, a2, a3, a4, a5⟩ := own_listW r hk (lstAt_some q0)
      refine ⟨.ref p0, a1, ?_⟩
      obtain ⟨ds, env1, q1, q2⟩ := bnd_ok q
      refine h.ok r q1 fun vs Hs1 H1 s1 r1 p1 => ?_
      cases q3 : lstAt i env1 with
      | none => simp only [q3] at q2; cases q2
      | some ds0 =>
        simp only [q3] at q2
        obtain ⟨p, xs, ds1, e1, h1, h2, h3, h4, h5⟩ := own_listW r1 hk (lstAt_some q3)
        cases e1
        have ep : p = p0 := by rw [h1] at a1; cases a1; rfl
        subst ep
        refine ⟨by rw [List.length_cons, p1.length]; exact hm _ _ _ q1, p, xs, ds0, vs, ds, rfl, h3, h4, h5, args r1 h2 p1, ?_⟩
        cases qf : F (.lst ds0 :: ds) with
        | ok d' io =>
          rw [qf] at q2
          unfold frW at q2
          simp only at q2
          split at q2
          · cases q2
            intro v H' xs' ds' eio hsc hr x pv
            subst eio
            obtain ⟨s2, r2⟩ := after r1 q3 h1 h2 hsc hr x
            have pv' : Rp cf.K true (rs (grow Hs1 H1 H') H) v d := pv.mono (nw_rs s1.dom)
            exact k v (grow Hs1 H1 H') H' (s1.trans s2) r2 pv' fun _ _ => pv'
          · cases q2
        | ex x io =>
          rw [qf] at q2
          unfold frW at q2
          simp only at q2
          split at q2 <;> cases q2
        | stuck => rw [qf] at q2; cases q2
  · unfold eCallW at q
    cases q0 : lstAt i env with
    | none => simp only [q0] at q; cases q
    | some ds00 =>
      simp only [q0] at q
      obtain ⟨p0, xs0, dz, _, a1, a2, a3, a4, a5⟩ := own_listW r hk (lstAt_some q0)
      refine ⟨.ref p0, a1, ?_⟩
      rcases bnd_ex q with q | ⟨ds, env1, q1, q2⟩
      · exact h.exn r q k
      · refine h.ok r q1 fun vs Hs1 H1 s1 r1 p1 => ?_
        cases q3 : lstAt i env1 with
        | none => simp only [q3] at q2; cases q2
        | some ds0 =>
          simp only [q3] at q2
          obtain ⟨p, xs, ds1, e1, h1, h2, h3, h4, h5⟩ := own_listW r1 hk (lstAt_some q3)
          cases e1
          have ep : p = p0 := by rw [h1] at a1; cases a1; rfl
          subst ep
          refine ⟨by rw [List.length_cons, p1.length]; exact hm _ _ _ q1, p, xs, ds0, vs, ds, rfl, h3, h4, h5, args r1 h2 p1, ?_⟩
          cases qf : F (.lst ds0 :: ds) with
          | ok d' io =>
            rw [qf] at q2
            unfold frW at q2
            simp only at q2
            split at q2 <;> cases q2
          | ex x' io =>
            rw [qf] at q2
            unfold frW at q2
            simp only at q2
            split at q2
            · cases q2
              intro H' xs' ds' eio hsc hr x
              subst eio
              obtain ⟨s2, r2⟩ := after r1 q3 h1 h2 hsc hr x
              exact k (grow Hs1 H1 H') H' (s1.trans s2) r2
            · cases q2
          | stuck => rw [qf] at q2; cases q2
theorem aLen_nil {ds : List D} {env env' : PEnv} (q : aNil env = .ok ds env') : ds.length = 0 := by cases q; rfl
theorem aLen_cons {fa : M D} {fr : M (List D)} {m : Nat} (h : ∀ ds env env', fr env = .ok ds env' → ds.length = m) {ds : List D} {env env' : PEnv} (q : aCons fa fr env = .ok ds env') : ds.length = m + 1 := by
  obtain ⟨d1, env1, q1, q⟩ := bnd_ok q
  obtain ⟨d2, env2, q2, q⟩ := bnd_ok q
  cases q
  rw [List.length_cons, h _ _ _ q2]
theorem se_call {F : List D → FR} {m k : Nat} {f : Addr} {fd : FuncData} {ps : List Str} {x : Str} {e : Expr} {es : List Expr} {ta : TA} {fa : M (List D)} {p pos : Pos} (hK : cf.K = X.K) (tk : L2N.Takes X W) (G : FnOk X.prog X.w X.K X.mg X.base (L2N.CX X.prog X.w) k f fd ps (spP X.K cf.cv m F)) (hr : Room k X.A) (hg : Gl X x) (hm : X.mg x = some (.ref f)) (hkp : PySem.W.keepIn X.K (.ref f) = true) (hb : Binds X.K fd ps []) (ha : SA X cf W .B (e :: es) ta fa) (hl : ∀ ds env env', fa env = .ok ds env' → ds.length = m)
    (hdb : (x == ("__debug__" : Str)) = false := by decide) (he : starEach (e :: es) X.env = (false, eval e X.env) :: starEach es X.env := by rfl) (hpl : (backTo pos (starEach es X.env)).any (·.1) = false := by rfl) :
    SE X cf W .V true (.Call (.Name x p) (e :: es) [] pos) (tCallS (spP cf.K cf.cv m F) (WE W) ta) (eCall F fa) := by
  refine ⟨?_, sd_call ha.s hl⟩
  rw [hK]
  exact pe_callS G hr hg hm hkp hb (fun σ => L2N.passAt tk σ) ha.p hdb he hpl
theorem se_callW {F : List D → FR} {m k i : Nat} {f : Addr} {fd : FuncData} {ps : List Str} {x : Str} {e : Expr} {es : List Expr} {ta : TA} {fa : M (List D)} {p pos : Pos} (hK : cf.K = X.K) (tk : L2N.Takes X W) (G : FnOk X.prog X.w X.K X.mg X.base (L2N.CX X.prog X.w) k f fd ps (spW X.K cf.cv m F)) (hr : Room k X.A) (hg : Gl X x) (hm : X.mg x = some (.ref f)) (hkp : PySem.W.keepIn X.K (.ref f) = true) (hb : Binds X.K fd ps []) (hk : cf.kd i = .W) (pe : PE X e (tVar i)) (ha : SA X cf W .B es ta fa) (hl : ∀ ds env env', fa env = .ok ds env' → ds.length + 1 = m)
    (hdb : (x == ("__debug__" : Str)) = false := by decide) (he : starEach (e :: es) X.env = (false, eval e X.env) :: starEach es X.env := by rfl) (hpl : (backTo pos (starEach es X.env)).any (·.1) = false := by rfl) :
    SE X cf W .V true (.Call (.Name x p) (e :: es) [] pos) (tCallS (spW cf.K cf.cv m F) (WE W) (tCons (tVar i) ta)) (eCallW F i fa) := by
  refine ⟨?_, sd_callW hk ha.s hl⟩
  rw [hK]
  exact pe_callS G hr hg hm hkp hb (fun σ => L2N.passAt tk σ) (pa_cons pe ha.p he) hdb he hpl
end
section
variable {P : Program} {w : World} {K : PySem.W.Frag} {mg : Str → Option Value} {base : Heap}
theorem start_get {N : List Str} {vs : List V} {i : Nat} {v : V} (h : vs[i]? = some v) : (L2.start N vs)[i]? = some (some v) := by
  unfold L2.start
  have hl : i < vs.length := (List.getElem?_eq_some_iff.mp h).1
  rw [List.getElem?_append_left (by rw [List.length_map]; exact hl), List.getElem?_map, h]
  rfl
theorem envOf_get {n : Nat} {ds : List D} {i : Nat} {d : D} (h : (envOf n ds)[i]? = some (some d)) : ds[i]? = some d := by
  unfold envOf at h
  by_cases hl : i < ds.length
  · rw [List.getElem?_append_left (by rw [List.length_map]; exact hl), List.getElem?_map] at h
    cases q : ds[i]? with
    | none => rw [q] at h; cases h
    | some d' => rw [q] at h; cases h; rfl
  · rw [List.getElem?_append_right (by rw [List.length_map]; omega), List.getElem?_replicate] at h
    split at h <;> cases h
theorem env_len {N : List Str} {ds : List D} {vs : List V} (h : vs.length = ds.length) : (envOf N.length ds).length = (L2.start N vs).length := by
  unfold envOf L2.start
  rw [List.length_append, List.length_append, List.length_map, List.length_map, List.length_replicate, List.length_replicate, h]
theorem okN {x qual : Str} {st : Stmt} {f : Addr} {fd : FuncData} {N ps : List Str} {k : Nat} {sp : Sp} (F : Fun K x qual st f fd) (S : FnScope N ps (defScope st)) (len : ∀ vs H Q E, sp vs H Q E → vs.length = ps.length)
    (hb : ∀ (cdv : Value) (A : Around) (outer : List Env) (s : Shared) (H : Hp) (vs : List V) (Q : VK) (E : XK), Room k (A.deeper (envOfC qual (defScope st) s.heap.objs.size f cdv)) → sp vs H Q E →
      ∃ t, PSs (cxOf (L2N.CX P w) P w K mg base N qual (defScope st) f cdv A outer s H E) (defBody st) t ∧ t { nx := fun _ H' => Q .non H', rt := Q } (L2.start N vs) H) : FnOk P w K mg base (L2N.CX P w) (k + 1) f fd ps sp := by
  obtain ⟨oc, od, kV, doc, pm, an, cdv, ct, osl, e, lk, hcd⟩ := F.ex
  subst e
  exact fn_of lk hcd S len fun A outer s H vs Q E hr h => hb cdv A outer s H vs Q E hr h
theorem takes0N {X : Cx} : L2N.Takes X (fun _ _ _ _ => False) := fun u s' x => by
  obtain ⟨a, B, sI, pins, σ, H, cls, d, _, _, _, _, _, _, _, _, z⟩ := x
  exact z.elim
theorem fn_P {x qual : Str} {st : Stmt} {f : Addr} {fd : FuncData} (N ps : List Str) (mN mP : Nat) {k : Nat} (cf : Cf) (g : M Fl) (hN : N.length = mN) (hP : ps.length = mP) (F : Fun K x qual st f fd) (S : FnScope N ps (defScope st)) (hK : cf.K = K) (hk : ∀ i, i < ps.length → cf.kd i = .S)
    (hbody : ∀ (cdv : Value) (A : Around) (outer : List Env) (s : Shared) (H : Hp) (E : XK), Room k (A.deeper (envOfC qual (defScope st) s.heap.objs.size f cdv)) → L2N.Takes (cxOf (L2N.CX P w) P w K mg base N qual (defScope st) f cdv A outer s H E) (fun cls d _ H => E cls d H) →
      PassesOwn (model P w) (A.deeper (envOfC qual (defScope st) s.heap.objs.size f cdv)) (envOfC qual (defScope st) s.heap.objs.size f cdv) (cxOf (L2N.CX P w) P w K mg base N qual (defScope st) f cdv A outer s H E).xe →
      SSs (cxOf (L2N.CX P w) P w K mg base N qual (defScope st) f cdv A outer s H E) cf (fun cls d _ H => E cls d H) (defBody st) g) :
    FnOk P w K mg base (L2N.CX P w) (k + 1) f fd ps (spP K cf.cv mP (runF mN g)) := by
  subst hN hP
  refine okN F S (fun vs H Q E h => h.1) (fun cdv A outer s H vs Q E hr h => ?_)
  obtain ⟨hl, ds, hd, h⟩ := h
  obtain ⟨t, p, sd⟩ := hbody cdv A outer s H E hr (L2N.takes_of rfl rfl rfl rfl) (passes_of rfl)
  refine ⟨t, p, ?_⟩
  have r : Rel cf ⟨H, none⟩ H (envOf N.length ds) (L2.start N vs) H (fun _ => []) [] :=
    { len := env_len hd.length
      exs := Ex.refl _
      ex0 := fun a o h _ => h
      dom0 := fun a h => h
      slot := fun i d q => by
        have q := envOf_get q
        obtain ⟨v, h1, h2⟩ := hd.get q
        refine ⟨v, start_get h1, ?_⟩
        rw [hk i (by rw [← hl, hd.length]; exact (List.getElem?_eq_some_iff.mp q).1), hK]
        exact h2
      nod := fun _ => List.nodup_nil
      dis := fun _ _ _ _ m => by cases m
      fdom := fun _ _ m => by cases m
      uns := fun _ _ m => by cases m
      new := fun _ _ m => by cases m
      volw := fun _ _ _ m => by cases m
      volb := fun _ _ _ m => by cases m
      wdom := fun _ m => by cases m
      ior := fun p h => by cases h }
  refine sd _ _ _ _ _ _ _ r _ ?_
  unfold runF at h
  have exH : ∀ {Hs' H' : Hp} {env' : PEnv} {σ' : L2.St} {F' : Nat → List Addr} {wf' : List Addr}, Rel cf ⟨H, none⟩ Hs' env' σ' H' F' wf' → Ex H H' := fun r' a o ha => r'.exs a o (r'.ex0 a o ha (fun z => by cases z))
  cases q : g (envOf N.length ds) with
  | stuck => rw [q] at h; exact h.elim
  | ex c e =>
    rw [q] at h
    exact fun Hs' σ' H' F' wf' _ r' => h H' (exH r')
  | ok fl e =>
    rw [q] at h
    cases fl with
    | nx => exact fun Hs' σ' H' F' wf' _ r' => h .non H' (exH r') .non
    | rt d => exact fun v Hs' σ' H' F' wf' _ r' pv => h v H' (exH r') (by
        rw [← hK]
        exact pv.mono fun a o ha => by
          have ha : rs (rm H' wf') H a = some o := ha
          cases z : H a with
          | none => rw [rs_none z] at ha; rw [nw_none z]; exact rm_sub _ _ a o ha
          | some u => rw [rs_some z] at ha; cases ha)
    | bk => exact h.elim
    | ct => exact h.elim
theorem ioOf_get {e : PEnv} {d : D} (h : e[0]? = some (some d)) : ioOf e = d := by
  cases e with
  | nil => cases h
  | cons a r =>
    have : a = some d := by simpa using h
    subst this
    rfl
theorem fn_W {x qual : Str} {st : Stmt} {f : Addr} {fd : FuncData} (N ps : List Str) (mN mP : Nat) {k : Nat} (cf : Cf) (g : M Fl) (hN : N.length = mN) (hP : ps.length = mP) (F : Fun K x qual st f fd) (S : FnScope N ps (defScope st)) (hK : cf.K = K) (h0 : cf.kd 0 = .W) (hk : ∀ i, 0 < i → i < ps.length → cf.kd i = .S)
    (hbody : ∀ (cdv : Value) (A : Around) (outer : List Env) (s : Shared) (H : Hp) (E : XK), Room k (A.deeper (envOfC qual (defScope st) s.heap.objs.size f cdv)) → L2N.Takes (cxOf (L2N.CX P w) P w K mg base N qual (defScope st) f cdv A outer s H E) (fun cls d _ H => E cls d H) →
      PassesOwn (model P w) (A.deeper (envOfC qual (defScope st) s.heap.objs.size f cdv)) (envOfC qual (defScope st) s.heap.objs.size f cdv) (cxOf (L2N.CX P w) P w K mg base N qual (defScope st) f cdv A outer s H E).xe →
      SSs (cxOf (L2N.CX P w) P w K mg base N qual (defScope st) f cdv A outer s H E) cf (fun cls d _ H => E cls d H) (defBody st) g) :
    FnOk P w K mg base (L2N.CX P w) (k + 1) f fd ps (spW K cf.cv mP (runF mN g)) := by
  subst hN hP
  refine okN F S (fun vs H Q E h => h.1) (fun cdv A outer s H vs Q E hr h => ?_)
  obtain ⟨hl, p, xs, ds0, vs', ds, rfl, hp, hsc, hr0, hd, h⟩ := h
  obtain ⟨t, pt, sd⟩ := hbody cdv A outer s H E hr (L2N.takes_of rfl rfl rfl rfl) (passes_of rfl)
  refine ⟨t, pt, ?_⟩
  have hpm : p ∈ [p] := List.mem_singleton.mpr rfl
  have r : Rel cf ⟨H, some p⟩ (rm H [p]) (envOf N.length (.lst ds0 :: ds)) (L2.start N (.ref p :: vs')) H (fun i => if i = 0 then [p] else []) [p] :=
    { len := env_len (by rw [List.length_cons, List.length_cons, hd.length])
      exs := rm_sub _ _
      ex0 := fun a o h n => by
        unfold rm
        rw [if_neg (fun m => n (by rw [List.mem_singleton.mp m]))]
        exact h
      dom0 := fun a h => h
      slot := fun i d q => by
        have q := envOf_get q
        cases i with
        | zero =>
          have q : D.lst ds0 = d := by simpa using q
          subst q
          refine ⟨.ref p, start_get rfl, ?_⟩
          rw [h0]
          exact ⟨p, xs, ds0, rfl, rfl, rfl, hp, hsc, by rw [hK]; exact hr0⟩
        | succ i =>
          have q : ds[i]? = some d := by simpa using q
          obtain ⟨v, h1, h2⟩ := hd.get q
          refine ⟨v, start_get (by simpa using h1), ?_⟩
          rw [hk (i + 1) (Nat.succ_pos i) (by rw [← hl, List.length_cons, hd.length]; exact Nat.succ_lt_succ (List.getElem?_eq_some_iff.mp q).1), hK]
          exact h2
      nod := fun i => by
        show (if i = 0 then [p] else []).Nodup
        split <;> simp
      dis := fun i j ne a m => by
        by_cases e : i = 0
        · rw [if_neg (fun z => ne (by rw [e, z]))]; exact fun z => by cases z
        · rw [if_neg e] at m; cases m
      fdom := fun i a m => by
        by_cases e : i = 0
        · rw [if_pos e] at m; rw [List.mem_singleton.mp m, hp]; exact fun z => by cases z
        · rw [if_neg e] at m; cases m
      uns := fun i a m => by
        by_cases e : i = 0
        · rw [if_pos e] at m; unfold rm; rw [if_pos m]
        · rw [if_neg e] at m; cases m
      new := fun i a m => by
        by_cases e : i = 0
        · rw [if_pos e] at m; exact .inl (by rw [List.mem_singleton.mp m])
        · rw [if_neg e] at m; cases m
      volw := fun i _ a m => by
        by_cases e : i = 0
        · rw [if_pos e] at m; exact m
        · rw [if_neg e] at m; cases m
      volb := fun i hw a m => by
        by_cases e : i = 0
        · subst e; exact absurd h0 hw
        · rw [if_neg e] at m; cases m
      wdom := fun a m => ⟨by rw [List.mem_singleton.mp m, hp]; exact (fun z => by cases z), by unfold rm; rw [if_pos m]⟩
      ior := fun q e => by
        cases e
        exact ⟨start_get rfl, if_pos rfl, h0, .lst ds0, by
          unfold envOf
          rfl⟩ }
  refine sd _ _ _ _ _ _ _ r _ ?_
  unfold runF at h
  have aft : ∀ {Hs' H' : Hp} {env' : PEnv} {σ' : L2.St} {F' : Nat → List Addr} {wf' : List Addr}, Rel cf ⟨H, some p⟩ Hs' env' σ' H' F' wf' → ∃ xs' ds', ioOf env' = .lst ds' ∧ ds'.all D.sc = true ∧ RpL K true emp xs' ds' ∧ Ex (upd H p (.lst xs')) H' := fun {Hs' H' env' σ' F' wf'} r' => by
    obtain ⟨g1, g2, g3, d, g4⟩ := r'.ior p rfl
    obtain ⟨v, s1, s2⟩ := r'.slot 0 d g4
    rw [h0] at s2
    obtain ⟨p2, xs', ds', e1, e2, e3, e4, e5, e6⟩ := s2
    rw [g2] at e3
    have e3 : p = p2 := by simpa using e3
    subst e3
    refine ⟨xs', ds', by rw [ioOf_get g4, e2], e5, by rw [← hK]; exact e6, fun a o ha => ?_⟩
    by_cases e : a = p
    · subst e; rw [upd_same] at ha; cases ha; exact e4
    · rw [upd_ne e] at ha
      exact r'.exs a o (r'.ex0 a o ha (fun z => by cases z; exact e rfl))
  cases q : g (envOf N.length (.lst ds0 :: ds)) with
  | stuck => rw [q] at h; exact h.elim
  | ex c e =>
    rw [q] at h
    intro Hs' σ' H' F' wf' _ r'
    obtain ⟨xs', ds', a1, a2, a3, a4⟩ := aft r'
    exact h H' xs' ds' a1 a2 a3 a4
  | ok fl e =>
    rw [q] at h
    cases fl with
    | nx =>
      intro Hs' σ' H' F' wf' _ r'
      obtain ⟨xs', ds', a1, a2, a3, a4⟩ := aft r'
      exact h .non H' xs' ds' a1 a2 a3 a4 .non
    | rt d =>
      intro v Hs' σ' H' F' wf' _ r' pv
      obtain ⟨xs', ds', a1, a2, a3, a4⟩ := aft r'
      refine h v H' xs' ds' a1 a2 a3 a4 ?_
      rw [← hK]
      exact pv.mono fun a o ha => by
        have ha : rs (rm H' wf') H a = some o := ha
        cases z : H a with
        | none => rw [rs_none z] at ha; rw [nw_none z]; exact rm_sub _ _ a o ha
        | some u => rw [rs_some z] at ha; cases ha
    | bk => exact h.elim
    | ct => exact h.elim
end
end MV
namespace MV
open PySem PySem.Spec PyProof.Rows L2
section
variable {X : Cx} {cf : Cf} {W : WX} {c ca cb : Cls} {n n1 n2 : Bool} {a b : Expr} {ta tb : TE} {fa fb : M D} {pos : Pos}
theorem se_add (ha : SE X cf W c n1 a ta fa) (hb : SE X cf W c n2 b tb fb) : SE X cf W c true (.BinOp a .Add b pos) (tOp rAdd3 ta tb) (e2 gAdd fa fb) := se_bin op_add3 snd_add ha hb
theorem se_mul (ha : SE X cf W c n1 a ta fa) (hb : SE X cf W c n2 b tb fb) : SE X cf W c true (.BinOp a .Mult b pos) (tOp rMul2 ta tb) (e2 gMul fa fb) := se_bin op_mul2 snd_mul ha hb
theorem sc_sub : ScF (e2 gSub fa fb) := gI2_sc fun i j d h => by cases h; rfl
theorem sc_fdiv : ScF (e2 gFdiv fa fb) := gI2_sc fun i j d h => by split at h <;> cases h; rfl
theorem sc_mod : ScF (e2 gMod fa fb) := gI2_sc fun i j d h => by split at h <;> cases h; rfl
theorem sc_pow : ScF (e2 gPow fa fb) := gI2_sc fun i j d h => by split at h <;> cases h; rfl
theorem sc_le : ScF (e2 gLe fa fb) := gI2_sc fun i j d h => by cases h; rfl
theorem sc_ge : ScF (e2 gGe fa fb) := gI2_sc fun i j d h => by cases h; rfl
theorem sc_map {o : Option Bool} {g : Bool → Bool} {d : D} (h : (o.map fun k => D.bl (g k)) = some d) : d.sc = true := by
  cases o with
  | none => cases h
  | some b => cases h; rfl
theorem sc_eq : ScF (e2 gEq fa fb) := e2_sc fun x y d h => sc_map (g := id) h
theorem se_sub (ha : SE X cf W ca n1 a ta fa) (hb : SE X cf W cb n2 b tb fb) : SE X cf W .V true (.BinOp a .Sub b pos) (tOp (rI0 fun i j => .int (i - j)) ta tb) (e2 gSub fa fb) := (se_bin op_sub snd_sub ha.b hb.b).low sc_sub
theorem se_fdiv (ha : SE X cf W ca n1 a ta fa) (hb : SE X cf W cb n2 b tb fb) : SE X cf W .V true (.BinOp a .FloorDiv b pos) (tOp rFdiv ta tb) (e2 gFdiv fa fb) := (se_bin (op_fdiv.or op_fdivW) snd_fdiv ha.b hb.b).low sc_fdiv
theorem se_mod (ha : SE X cf W ca n1 a ta fa) (hb : SE X cf W cb n2 b tb fb) : SE X cf W .V true (.BinOp a .Mod b pos) (tOp (rI (fun _ j => 0 < j) fun i j => .int (i % j)) ta tb) (e2 gMod fa fb) := (se_bin op_mod snd_mod ha.b hb.b).low sc_mod
theorem se_pow (ha : SE X cf W ca n1 a ta fa) (hb : SE X cf W cb n2 b tb fb) : SE X cf W .V true (.BinOp a .Pow b pos) (tOp (rI CPow fun i j => .int (i ^ j.toNat)) ta tb) (e2 gPow fa fb) := (se_bin op_pow snd_pow ha.b hb.b).low sc_pow
theorem se_neg (ha : SE X cf W ca n1 a ta fa) : SE X cf W .V true (.UnaryOp .USub a pos) (tUn (rU fun i => .int (-i)) ta) (e1 gNeg fa) := (se_una un_neg snd_neg ha.b).low (e1_sc fun x d h => by
  unfold gNeg at h
  split at h <;> cases h; rfl)
theorem se_le (ha : SE X cf W ca n1 a ta fa) (hb : SE X cf W cb n2 b tb fb) : SE X cf W .V true (.Compare a [.LtE] [b] pos) (tOp (rI0 fun i j => .bl (decide (i ≤ j))) ta tb) (e2 gLe fa fb) := (se_cmp op_le snd_le ha.b hb.b (nomark _)).low sc_le
theorem se_ge (ha : SE X cf W ca n1 a ta fa) (hb : SE X cf W cb n2 b tb fb) : SE X cf W .V true (.Compare a [.GtE] [b] pos) (tOp (rI0 fun i j => .bl (decide (j ≤ i))) ta tb) (e2 gGe fa fb) := (se_cmp op_ge snd_ge ha.b hb.b (nomark _)).low sc_ge
theorem se_eq (hK : cf.K = X.K) (hu : X.A.units + 64 < cLine) (ha : SE X cf W ca n1 a ta fa) (hb : SE X cf W cb n2 b tb fb) : SE X cf W .V true (.Compare a [.Eq] [b] pos) (tOp (rEq2 cf.K) ta tb) (e2 gEq fa fb) := by
  rw [hK]
  exact (se_cmp (op_eq2 hu) (by rw [hK]; exact snd_eq) ha.b hb.b (nomark _)).low sc_eq
theorem st_lt (ha : SE X cf W ca n1 a ta fa) (hb : SE X cf W cb n2 b tb fb) : ST X cf W (.Compare a [.Lt] [b] pos) (tTest (tOp (rI0 fun i j => .bl (decide (i < j))) ta tb)) (tB (e2 gLt fa fb)) := st_cmp op_lt snd_lt ha.b hb.b (nomark _)
theorem st_le (ha : SE X cf W ca n1 a ta fa) (hb : SE X cf W cb n2 b tb fb) : ST X cf W (.Compare a [.LtE] [b] pos) (tTest (tOp (rI0 fun i j => .bl (decide (i ≤ j))) ta tb)) (tB (e2 gLe fa fb)) := st_cmp op_le snd_le ha.b hb.b (nomark _)
theorem st_gt (ha : SE X cf W ca n1 a ta fa) (hb : SE X cf W cb n2 b tb fb) : ST X cf W (.Compare a [.Gt] [b] pos) (tTest (tOp (rI0 fun i j => .bl (decide (j < i))) ta tb)) (tB (e2 gGt fa fb)) := st_cmp op_gt snd_gt ha.b hb.b (nomark _)
theorem st_eq (hK : cf.K = X.K) (hu : X.A.units + 64 < cLine) (ha : SE X cf W ca n1 a ta fa) (hb : SE X cf W cb n2 b tb fb) : ST X cf W (.Compare a [.Eq] [b] pos) (tTest (tOp (rEq2 cf.K) ta tb)) (tB (e2 gEq fa fb)) := by
  rw [hK]
  exact st_cmp (op_eq2 hu) (by rw [hK]; exact snd_eq) ha.b hb.b (nomark _)
theorem st_ne (hK : cf.K = X.K) (hu : X.A.units + 64 < cLine) (ha : SE X cf W ca n1 a ta fa) (hb : SE X cf W cb n2 b tb fb) : ST X cf W (.Compare a [.NotEq] [b] pos) (tTest (tOp (rNe2 cf.K) ta tb)) (tB (e2 gNe fa fb)) := by
  rw [hK]
  exact st_cmp (op_ne2 hu) (by rw [hK]; exact snd_ne) ha.b hb.b (nomark _)
theorem st_notIn (hK : cf.K = X.K) (ha : SE X cf W ca n1 a ta fa) (hb : SE X cf W cb n2 b tb fb) (hm : behindInMarks .NotIn b = false := by rfl) : ST X cf W (.Compare a [.NotIn] [b] pos) (tTest (tOp (rNotIn2 cf.K) ta tb)) (tB (e2 gNotIn fa fb)) := by
  rw [hK]
  exact st_cmp op_notIn2 (by rw [hK]; exact snd_notIn) ha.b hb.b hm
variable {p : Pos} {tA : TA} {fA : M (List D)} {e : Expr} {es : List Expr}
theorem SA.one (h : SE X cf W ca n1 a ta fa) (hs : starEach [a] X.env = (false, eval a X.env) :: starEach [] X.env := by rfl) : SA X cf W .B [a] (tCons ta tNil) (aCons fa aNil) := sa_cons h.b sa_nil hs
theorem scN {g : List D → Option D} (hg : ∀ x d, g x = some d → d.sc = true) : ScF (eN g fA) := eN_sc hg
theorem sc_len (x : List D) (d : D) (h : gLen x = some d) : d.sc = true := by
  unfold gLen at h
  split at h
  · cases h; rfl
  · cases h; rfl
  · split at h <;> cases h; rfl
  · cases h
theorem sc_max2 (x : List D) (d : D) (h : gMax2 x = some d) : d.sc = true := by unfold gMax2 at h; split at h <;> cases h; rfl
theorem sc_min2 (x : List D) (d : D) (h : gMin2 x = some d) : d.sc = true := by unfold gMin2 at h; split at h <;> cases h; rfl
theorem sc_int1 (x : List D) (d : D) (h : gInt1 x = some d) : d.sc = true := by unfold gInt1 at h; split at h <;> cases h <;> rfl
theorem se_len (hK : cf.K = X.K) (hm : X.mg "len" = none) (ha : SA X cf W ca (e :: es) tA fA) (hg : Gl X "len" := by rfl) (he : starEach (e :: es) X.env = (false, eval e X.env) :: starEach es X.env := by rfl) (hpl : (backTo pos (starEach es X.env)).any (·.1) = false := by rfl) :
    SE X cf W .V true (.Call (.Name "len" p) (e :: es) [] pos) (tCB (fun xs H Q => ∃ x n, xs = [x] ∧ LenV cf.K x H n ∧ Q (.int n) H) tA) (eN gLen fA) := by
  rw [hK]
  exact (se_cb call_len (n := true) (by rw [hK]; exact snd_len) hg hm PySem.boot_len ha (by decide) (by decide) he hpl).low (scN sc_len)
theorem se_max2 (hc : X.calm = true) (hm : X.mg "max" = none) (ha : SA X cf W ca (e :: es) tA fA) (hg : Gl X "max" := by rfl) (he : starEach (e :: es) X.env = (false, eval e X.env) :: starEach es X.env := by rfl) (hpl : (backTo pos (starEach es X.env)).any (·.1) = false := by rfl) :
    SE X cf W .V true (.Call (.Name "max" p) (e :: es) [] pos) (tCB (fun xs H Q => ∃ i j, xs = [.int i, .int j] ∧ Q (.int (if j > i then j else i)) H) tA) (eN gMax2 fA) := (se_cb (call_max2 hc) (n := true) snd_max2 hg hm (by decide +kernel) ha (by decide) (by decide) he hpl).low (scN sc_max2)
theorem se_min2 (hc : X.calm = true) (hm : X.mg "min" = none) (ha : SA X cf W ca (e :: es) tA fA) (hg : Gl X "min" := by rfl) (he : starEach (e :: es) X.env = (false, eval e X.env) :: starEach es X.env := by rfl) (hpl : (backTo pos (starEach es X.env)).any (·.1) = false := by rfl) :
    SE X cf W .V true (.Call (.Name "min" p) (e :: es) [] pos) (tCB (fun xs H Q => ∃ i j, xs = [.int i, .int j] ∧ Q (.int (if j < i then j else i)) H) tA) (eN gMin2 fA) := (se_cb (call_min2 hc) (n := true) snd_min2 hg hm (by decide +kernel) ha (by decide) (by decide) he hpl).low (scN sc_min2)
theorem se_int1 (hm : X.mg "int" = none) (ha : SA X cf W ca (e :: es) tA fA) (hg : Gl X "int" := by rfl) (he : starEach (e :: es) X.env = (false, eval e X.env) :: starEach es X.env := by rfl) (hpl : (backTo pos (starEach es X.env)).any (·.1) = false := by rfl) :
    SE X cf W .V true (.Call (.Name "int" p) (e :: es) [] pos) (tCB (fun xs H Q => (∃ i, xs = [.int i] ∧ Q (.int i) H) ∨ ∃ k, xs = [.bl k] ∧ Q (.int (if k then 1 else 0)) H) tA) (eN gInt1 fA) := (se_ct call_int1 (n := true) snd_int1 hg hm (by decide +kernel) ha (by decide) (by decide) he hpl).low (scN sc_int1)
theorem se_list1 (hK : cf.K = X.K) (hm : X.mg "list" = none) (ha : SA X cf W c (e :: es) tA fA) (hg : Gl X "list" := by rfl) (he : starEach (e :: es) X.env = (false, eval e X.env) :: starEach es X.env := by rfl) (hpl : (backTo pos (starEach es X.env)).any (·.1) = false := by rfl) (hcm : X.calm = true := by rfl) :
    SE X cf W c true (.Call (.Name "list" p) (e :: es) [] pos) (tCB (rList1 cf.K) tA) (eN gList1 fA) := by
  rw [hK]
  exact se_ct (call_list_of.or (call_listS hcm)) (n := true) (by rw [hK]; exact snd_list1) hg hm (by decide +kernel) ha (by decide) (by decide) he hpl
end
end MV
namespace MV
open PySem PySem.Spec PyProof.Rows L2
def D.ty : D → Option String
  | .non => some "NoneType"
  | .bl _ => some "bool"
  | .int _ => some "int"
  | .str _ => some "str"
  | .lst _ => some "list"
  | .tup _ => some "tuple"
  | .dic _ => some "dict"
  | .dit _ => some "dict"
  | .exc _ => none
def isiB (a T : String) : Bool := a == T || (a == "bool" && T == "int")
def tyNames : List String := ["NoneType", "bool", "int", "str", "list", "tuple", "dict"]
def clNames : List String := ["int", "bool", "list", "tuple", "str"]
theorem isiB_ok : ∀ a ∈ tyNames, ∀ T ∈ clNames, kitB a T = some (isiB a T) := by decide +kernel
def gIsi (T : String) (d : D) : Option D := match d.ty with
  | some a => some (.bl (isiB a T))
  | none => none
def eIsi (T : String) (f : M D) : M D := e1 (gIsi T) f
theorem rp_ty {K : PySem.W.Frag} {G H : Hp} {v : V} {d : D} {a : String} (e : Ex G H) (h : Rp K true G v d) (q : d.ty = some a) : a ∈ tyNames ∧ TyX K H v (.type a) := by
  cases h with
  | sc z =>
    cases d <;> cases z <;> cases q <;> refine ⟨by decide, .base ?_⟩ <;> constructor
  | lst s r => cases q; exact ⟨by decide, .base (.lst (e _ _ s))⟩
  | tup s r => cases q; exact ⟨by decide, .base (.tup (e _ _ s))⟩
  | dic s l r => cases q; exact ⟨by decide, .base (.dK (e _ _ s))⟩
  | dit s l r => cases q; exact ⟨by decide, .base (.dT (e _ _ s))⟩
  | exc _ => cases q
section
variable {X : Cx} {cf : Cf} {W : WX} {c ca cb : Cls} {n n1 n2 : Bool} {a b : Expr} {ta tb : TE} {fa fb : M D} {pos : Pos}
theorem se_isi {T : String} {x : Str} {p p2 : Pos} (hK : cf.K = X.K) (hT : T ∈ clNames) (hm : X.mg "isinstance" = none) (hmT : X.mg x = none) (hvT : bootBuiltins x = some (.type T)) (ha : SE X cf W ca n1 a ta fa) (hg : Gl X "isinstance" := by rfl) (hgT : Gl X x := by rfl) (hn : x ≠ "__name__" := by decide) (hd : (x == ("__debug__" : Str)) = false := by decide)
    (he : starEach [a, .Name x p2] X.env = (false, eval a X.env) :: starEach [.Name x p2] X.env := by rfl) (he2 : starEach [.Name x p2] X.env = (false, eval (.Name x p2) X.env) :: starEach [] X.env := by rfl) (hpl : (backTo pos (starEach [.Name x p2] X.env)).any (·.1) = false := by rfl) :
    SE X cf W .V true (.Call (.Name "isinstance" p) [a, .Name x p2] [] pos) (tCB (rIsi cf.K) (tCons ta (tCons (tC (.ty T)) tNil))) (eIsi T fa) := by
  rw [hK]
  refine SE.low (c := .B) (n := true) ⟨pe_callB call_isi hg hm (by decide +kernel) (pa_cons ha.p (pa_cons (pe_bltn hgT hmT hvT rfl hn hd) pa_nil he2) he) (by decide) (by decide) he hpl, ?_⟩ (e1_sc fun x d h => by
    unfold gIsi at h
    split at h <;> cases h; rfl)
  refine Sd.mk (fun R Hs env σ H F wf r d env' q Q k => ?_) (fun R Hs env σ H F wf r x env' q Q k => ?_)
  · obtain ⟨d1, env1, q1, q2⟩ := bnd_ok q
    obtain ⟨qg, rfl⟩ := lift_ok q2
    refine ha.b.s.ok r q1 fun v Hs1 H1 s1 r1 p1 _ => ?_
    unfold gIsi at qg
    split at qg
    · cases qg
      rename_i tn ht
      obtain ⟨m1, m2⟩ := rp_ty (rm_sub H1 wf) p1 ht
      refine ⟨v, .ty T, .type tn, .type T, isiB tn T, rfl, .ty T, by rw [← hK]; exact m2, kit_ty (isiB_ok tn m1 T hT), k _ Hs1 H1 s1 r1 (.bl _) fun _ _ => .bl _⟩
    · cases qg
  · rcases bnd_ex q with q | ⟨d1, env1, q1, q2⟩
    · exact ha.b.s.exn r q k
    · exact (lift_ex q2).elim
def eSlQ (i : Nat) (lo hi : M (Option Int)) : M D := fun e => match lstAt i e with
  | none => .stuck
  | some _ => bnd lo (fun l => bnd hi fun h => fun e => match lstAt i e with
    | some ds => if ds.all D.sc then .ok (.lst (cutA ds l h)) e else .stuck
    | none => .stuck) e
theorem q_list {R : Rs} {Hs : Hp} {env : PEnv} {σ : L2.St} {H : Hp} {F : Nat → List Addr} {wf : List Addr} {i : Nat} {ds : List D} (r : Rel cf R Hs env σ H F wf) (hk : cf.kd i = .Q) (h : lstAt i env = some ds) : ∃ p xs, σ[i]? = some (some (.ref p)) ∧ SqL cf.K H p xs ∧ RpL cf.K false Hs xs ds := by
  obtain ⟨v, h1, h2⟩ := r.slot i _ (lstAt_some h)
  rw [hk] at h2
  obtain ⟨a, xs, rfl, h3, h4⟩ := Rp.lst_inv h2
  exact ⟨a, xs, h1, ex_sql r.exs h3, h4⟩
theorem cut_all {ds : List D} {l h : Option Int} (hs : ds.all D.sc = true) : (cutA ds l h).all D.sc = true := by
  rw [List.all_eq_true] at hs ⊢
  intro x hx
  unfold cutA at hx
  exact hs x (List.mem_of_mem_drop (List.mem_of_mem_take hx))
theorem se_slQ {i : Nat} {o : Expr} {lo hi : Option Expr} {tl th : TO} {fl fh : M (Option Int)} {p2 : Pos} (hK : cf.K = X.K) (po : PE X o (tVar i)) (hk : cf.kd i = .Q) (hl : SO X cf W lo tl fl) (hh : SO X cf W hi th fh) : SE X cf W .V true (.Subscript o (.Slice lo hi none p2) pos) (tSl (rSlL cf.K) (tVar i) tl th) (eSlQ i fl fh) := by
  rw [hK]
  refine ⟨pe_slice sl_list po hl.p hh.p, Sd.mk (fun R Hs env σ H F wf r d env' q Q k => ?_) (fun R Hs env σ H F wf r x env' q Q k => ?_)⟩
  · unfold eSlQ at q
    cases q0 : lstAt i env with
    | none => simp only [q0] at q; cases q
    | some ds0 =>
      simp only [q0] at q
      obtain ⟨p0, xs0, a1, a2, a3⟩ := q_list r hk q0
      refine ⟨.ref p0, a1, ?_⟩
      obtain ⟨l, env1, q1, q⟩ := bnd_ok q
      obtain ⟨h, env2, q2, q⟩ := bnd_ok q
      refine hl.s.ok r q1 fun Hs1 H1 s1 r1 => hh.s.ok r1 q2 fun Hs2 H2 s2 r2 => ?_
      cases q3 : lstAt i env2 with
      | none => simp only [q3] at q; cases q
      | some ds =>
        simp only [q3] at q
        split at q
        · rename_i hsc
          cases q
          obtain ⟨p, xs, h1, h2, h3⟩ := q_list r2 hk q3
          have ep : p = p0 := by rw [h1] at a1; cases a1; rfl
          subst ep
          refine ⟨p, xs, rfl, by rw [← hK]; exact h2, fun pp hp => ?_⟩
          have rr : RpL cf.K true emp (cutV xs l h) (cutA ds l h) := (cutV_rp h3 l h).sc_any (cut_all hsc) _ _
          have hst : H pp = none := by
            cases z : H pp with
            | none => rfl
            | some u => exact absurd hp ((s1.trans s2).dom pp (by rw [z]; exact fun y => by cases y))
          have pv : Rp cf.K true (rs (grow Hs2 H2 (upd H2 pp (.lst (cutV xs l h)))) H) (.ref pp) (.lst (cutA ds l h)) := .lst (show rs _ H pp = _ by rw [rs_none hst, grow_none hp, upd_same]) (rr.sc_any (cut_all hsc) _ _)
          exact k _ (grow Hs2 H2 _) _ ((s1.trans s2).trans (Stp.grow r2.exs (Ex.new hp))) (r2.grow (Ex.new hp)) pv fun _ _ => pv
        · cases q
  · unfold eSlQ at q
    cases q0 : lstAt i env with
    | none => simp only [q0] at q; cases q
    | some ds0 =>
      simp only [q0] at q
      obtain ⟨p0, xs0, a1, a2, a3⟩ := q_list r hk q0
      refine ⟨.ref p0, a1, ?_⟩
      rcases bnd_ex q with q | ⟨l, env1, q1, q⟩
      · exact hl.s.exn r q k
      · rcases bnd_ex q with q | ⟨h, env2, q2, q⟩
        · exact hl.s.ok r q1 fun Hs1 H1 s1 r1 => hh.s.exn r1 q fun Hs2 H2 s2 r2 => k Hs2 H2 (s1.trans s2) r2
        · cases q3 : lstAt i env2 with
          | none => simp only [q3] at q; cases q
          | some ds => simp only [q3] at q; split at q <;> cases q
end
def spLaw (K : PySem.W.Frag) (F : List D → FR) : Sp := fun vs H Q _ => vs.length = 1 ∧ ∃ (a : Addr) (ns : List Int), vs = [.ref a] ∧ SqL K H a (ns.map V.int) ∧ (∃ io, F [.lst (ns.map .int)] = .ok (.bl true) io) ∧ ∀ H', Q (.bl true) H'
section
variable {P : Program} {w : World} {K : PySem.W.Frag} {mg : Str → Option Value} {base : Heap}
theorem rpl_ints {K : PySem.W.Frag} {x : Bool} {G : Hp} : ∀ ns : List Int, RpL K x G (ns.map V.int) (ns.map D.int)
  | [] => .nil
  | n :: ns => .cons (.int n) (rpl_ints ns)
theorem fn_law {x qual : Str} {st : Stmt} {f : Addr} {fd : FuncData} (N : List Str) (mN : Nat) {y : Str} {k : Nat} (cf : Cf) (g : M Fl) (hN : N.length = mN) (F : Fun K x qual st f fd) (S : FnScope N [y] (defScope st)) (hK : cf.K = K) (hk : cf.kd 0 = .Q)
    (hbody : ∀ (cdv : Value) (A : Around) (outer : List Env) (s : Shared) (H : Hp) (E : XK), Room k (A.deeper (envOfC qual (defScope st) s.heap.objs.size f cdv)) → SSs (cxOf CX0 P w K mg base N qual (defScope st) f cdv A outer s H E).nox cf W0 (defBody st) g) :
    FnOk P w K mg base CX0 (k + 1) f fd [y] (spLaw K (runF mN g)) := by
  subst hN
  refine F.ok S (fun vs H Q E h => h.1) (fun cdv A outer s H vs Q E hr h => ?_)
  obtain ⟨hl, a, ns, rfl, hS, ⟨io, h⟩, hq⟩ := h
  obtain ⟨t, p, sd⟩ := hbody cdv A outer s H E hr
  refine ⟨t, p, ?_⟩
  have r : Rel cf ⟨H, none⟩ H (envOf N.length [.lst (ns.map .int)]) (L2.start N [.ref a]) H (fun _ => []) [] :=
    { len := env_len rfl
      exs := Ex.refl _
      ex0 := fun a o h _ => h
      dom0 := fun a h => h
      slot := fun i d q => by
        have q := envOf_get q
        cases i with
        | zero =>
          have q : D.lst (ns.map .int) = d := by simpa using q
          subst q
          refine ⟨.ref a, start_get rfl, ?_⟩
          rw [hk, hK]
          exact .lst hS (rpl_ints ns)
        | succ i => simp at q
      nod := fun _ => List.nodup_nil
      dis := fun _ _ _ _ m => by cases m
      fdom := fun _ _ m => by cases m
      uns := fun _ _ m => by cases m
      new := fun _ _ m => by cases m
      volw := fun _ _ _ m => by cases m
      volb := fun _ _ _ m => by cases m
      wdom := fun _ m => by cases m
      ior := fun p h => by cases h }
  refine sd _ _ _ _ _ _ _ r _ ?_
  unfold runF at h
  cases q : g (envOf N.length [.lst (ns.map .int)]) with
  | stuck => rw [q] at h; cases h
  | ex c e => rw [q] at h; cases h
  | ok fl e =>
    rw [q] at h
    cases fl with
    | nx => cases h
    | rt d =>
      cases h
      exact fun v Hs' σ' H' F' wf' _ r' pv => by rw [pv.bl_inv]; exact hq H'
    | bk => cases h
    | ct => cases h
end
end MV
namespace MV
open PySem PySem.Spec PyProof.Rows L2
theorem aLen1 {fr : M (List D)} {m : Nat} (h : ∀ ds env env', fr env = .ok ds env' → ds.length = m) : ∀ ds env env', fr env = .ok ds env' → ds.length + 1 = m + 1 := fun ds e e2 q => congrArg (· + 1) (h ds e e2 q)
def WFUEL : Nat := 1000000
theorem own1 {cf : Cf} {x : Str} {j : Nat} (h : cf.kd j = .S) : ∀ i ∈ ([(x, j)] : List (Str × Nat)).map (·.2), cf.kd i = .S := fun i m => by
  rw [List.mem_singleton.mp m]; exact h
section
variable {X : Cx} {cf : Cf} {W : WX} {c ca cb : Cls} {n n1 n2 : Bool}
section
variable {a b d e : Expr} {ta tb td te : TT} {fa fb fd fe : M Bool} {pos : Pos}
theorem st_or2 (ha : ST X cf W a ta fa) (hb : ST X cf W b tb fb) : ST X cf W (.BoolOp .Or [a, b] pos) (tOr ta tb) (tOr2 fa fb) := SW.st (sw_or ha (sw_or1 hb))
theorem st_and2 (ha : ST X cf W a ta fa) (hb : ST X cf W b tb fb) : ST X cf W (.BoolOp .And [a, b] pos) (tAnd ta tb) (tAnd2 fa fb) := SW.st (sw_and ha (sw_and1 hb))
end
def sAug (g : Int → Int → Int) (i : Nat) (f : M D) : M Fl := fun e => match e[i]? with
  | some (some (.int x)) => bnd f (fun y => fun e => match y with
    | .int y => .ok .nx (e.set i (some (.int (g x y))))
    | _ => .stuck) e
  | _ => .stuck
def sUnp (f : M D) (tg : D → M Unit) : M Fl := bnd f fun d => bnd (tg d) fun _ => ret .nx
theorem ss_unp {tgt e : Expr} {te : TE} {f : M D} {is : List Nat} {g : TG} {ft : D → M Unit} {pos : Pos} (h : SE X cf W .S n e te f) (hg : SGt X cf is tgt g ft)
    (hs : swapsWithSole [tgt] e pos.line X.env = pure false := by rfl) (hw : swappedStores [tgt] e X.env = pure none := by rfl) (h1 : (assignEach [tgt] X.env).map (·.2) = [assign tgt X.env] := by rfl) :
    SS X cf W (.Assign [tgt] e pos) (sUnp f ft) := by
  refine ⟨_, ps_asg h.p hg.p hs hw h1, fun R Hs env σ H F wf r D hp => ?_⟩
  refine h.s.bind r hp fun d env1 v Hs1 H1 s1 r1 p1 _ hp => ?_
  have hh := hg.s R Hs1 env1 σ H1 F wf r1 d v p1 D.nx
  cases q : ft d env1 with
  | stuck => rw [bnd_of_stuck q] at hp; exact hp.elim
  | ex x env2 => rw [q] at hh; exact hh.elim
  | ok u env2 =>
    rw [q] at hh
    rw [bnd_of_ok q] at hp
    exact hh fun σ' r' _ _ => hp Hs1 σ' H1 F wf s1.ex r'
end
end MV
namespace MV
open PySem (Str)
abbrev dI (l : List Int) : D := .lst (l.map .int)
abbrev dT (l : List Str) : D := .lst (l.map .str)
def rb {α β : Type} (r : Res α) (k : α → PEnv → Res β) : Res β := match r with
  | .ok a e => k a e
  | .ex c e => .ex c e
  | .stuck => .stuck
section
variable {α β : Type} {m : M α} {k : α → M β} {e : PEnv} {f g fa fb fc : M D} {a b : M Fl} {t u : M Bool} {r : M (List D)}
@[simp] theorem rb_ok {a : α} {e : PEnv} {k : α → PEnv → Res β} : rb (.ok a e) k = k a e := (rfl)
@[simp] theorem rb_ex {c : Str} {e : PEnv} {k : α → PEnv → Res β} : rb (.ex c e) k = .ex c e := (rfl)
@[simp] theorem rb_stuck {k : α → PEnv → Res β} : rb .stuck k = .stuck := (rfl)
@[simp] theorem rb_ite {p : Prop} [Decidable p] {x y : Res α} {k : α → PEnv → Res β} : rb (if p then x else y) k = if p then rb x k else rb y k := by split <;> rfl
@[simp] theorem r_ret {x : α} : ret x e = .ok x e := (rfl)
@[simp] theorem r_bnd : bnd m k e = rb (m e) k := (rfl)
@[simp] theorem r_lift_some {x : α} : lift (some x) e = .ok x e := (rfl)
@[simp] theorem r_lift_none : lift (none : Option α) e = .stuck := (rfl)
@[simp] theorem r_lift_ite {p : Prop} [Decidable p] {x y : Option α} : lift (if p then x else y) e = if p then lift x e else lift y e := by split <;> rfl
@[simp] theorem r_fail : (fail : M α) e = .stuck := (rfl)
@[simp] theorem r_eC {d : D} : eC d e = .ok d e := (rfl)
def getE (o : Option (Option D)) (e : PEnv) : Res D := match o with
  | some (some d) => .ok d e
  | _ => .stuck
@[simp] theorem getE_some {d : D} : getE (some (some d)) e = .ok d e := (rfl)
@[simp] theorem r_eV {i : Nat} : eV i e = getE (e[i]?) e := (rfl)
@[simp] theorem r_e1 {h : D → Option D} : e1 h fa e = rb (fa e) fun x e => lift (h x) e := (rfl)
@[simp] theorem r_e2 {h : D → D → Option D} : e2 h fa fb e = rb (fa e) fun x e => rb (fb e) fun y e => lift (h x y) e := (rfl)
@[simp] theorem r_eN {h : List D → Option D} : eN h r e = rb (r e) fun x e => lift (h x) e := (rfl)
@[simp] theorem r_aNil : aNil e = .ok [] e := (rfl)
@[simp] theorem r_aCons : aCons fa r e = rb (fa e) fun x e => rb (r e) fun xs e => .ok (x :: xs) e := (rfl)
@[simp] theorem r_tB : tB fa e = rb (fa e) fun x e => lift (asB x) e := (rfl)
@[simp] theorem r_asB {b : Bool} : asB (.bl b) = some b := (rfl)
@[simp] theorem r_tAnd2 : tAnd2 t u e = rb (t e) fun x e => if x then u e else .ok false e := by
  show rb (t e) _ = _
  congr 1; funext x e; cases x <;> rfl
@[simp] theorem r_tOr2 : tOr2 t u e = rb (t e) fun x e => if x then .ok true e else u e := by
  show rb (t e) _ = _
  congr 1; funext x e; cases x <;> rfl
@[simp] theorem r_tNot1 : tNot1 t e = rb (t e) fun x e => .ok (!x) e := (rfl)
@[simp] theorem r_tTrue : tTrue e = .ok true e := (rfl)
@[simp] theorem r_eAndV : eAndV fa fb e = rb (fa e) fun x e => rb (lift (asB x) e) fun k e => if k then fb e else .ok (.bl false) e := by
  show rb (fa e) _ = _
  congr 1; funext x e
  show rb _ _ = _
  congr 1; funext k e; cases k <;> rfl
@[simp] theorem r_eOrV : eOrV fa fb e = rb (fa e) fun x e => rb (lift (asB x) e) fun k e => if k then .ok (.bl true) e else fb e := by
  show rb (fa e) _ = _
  congr 1; funext x e
  show rb _ _ = _
  congr 1; funext k e; cases k <;> rfl
@[simp] theorem r_eNotV : eNotV fa e = rb (fa e) fun x e => rb (lift (asB x) e) fun k e => .ok (.bl (!k)) e := (rfl)
@[simp] theorem r_eIfE : eIfE t fa fb e = rb (t e) fun k e => if k then fa e else fb e := by
  show rb (t e) _ = _
  congr 1; funext k e; cases k <;> rfl
@[simp] theorem r_eF : eF fa e = rb (fa e) fun d e => if d.flat then .ok d e else .stuck := by
  show rb (fa e) _ = _
  congr 1; funext d e; cases h : d.flat <;> simp [h]
@[simp] theorem r_eS : eS fa e = rb (fa e) fun d e => if d.sc then .ok d e else .stuck := by
  show rb (fa e) _ = _
  congr 1; funext d e; cases h : d.sc <;> simp [h]
@[simp] theorem r_sSkip : sSkip e = .ok .nx e := (rfl)
@[simp] theorem r_sBrk : sBrk e = .ok .bk e := (rfl)
@[simp] theorem r_sCont : sCont e = .ok .ct e := (rfl)
def sqK (b : M Fl) : Fl → PEnv → Res Fl
  | .nx, e => b e
  | .rt d, e => .ok (.rt d) e
  | .bk, e => .ok .bk e
  | .ct, e => .ok .ct e
@[simp] theorem sqK_nx : sqK b .nx e = b e := (rfl)
@[simp] theorem sqK_rt {d : D} : sqK b (.rt d) e = .ok (.rt d) e := (rfl)
@[simp] theorem sqK_bk : sqK b .bk e = .ok .bk e := (rfl)
@[simp] theorem sqK_ct : sqK b .ct e = .ok .ct e := (rfl)
@[simp] theorem r_sSeq : sSeq a b e = rb (a e) (sqK b) := by
  show rb (a e) _ = _
  congr 1; funext f e; cases f <;> rfl
@[simp] theorem r_sDrop : sDrop fa e = rb (fa e) fun _ e => .ok .nx e := (rfl)
@[simp] theorem r_sRet : sRet fa e = rb (fa e) fun d e => .ok (.rt d) e := (rfl)
@[simp] theorem r_sRetN : sRetN e = .ok (.rt .non) e := (rfl)
@[simp] theorem r_sIf : sIf t a b e = rb (t e) fun k e => if k then a e else b e := by
  show rb (t e) _ = _
  congr 1; funext k e; cases k <;> rfl
@[simp] theorem r_sSet {i : Nat} : sSet i fa e = rb (fa e) fun d e => .ok .nx (e.set i (some d)) := (rfl)
@[simp] theorem r_sSetM {i : Nat} : sSetM i fa e = rb (fa e) fun d e => if mok d then .ok .nx (e.set i (some d)) else .stuck := by
  show rb (fa e) _ = _
  congr 1; funext d e; cases h : mok d <;> simp [h]
@[simp] theorem r_sSetW {i : Nat} : sSetW i fa e = rb (fa e) fun d e => if wok d then .ok .nx (e.set i (some d)) else .stuck := by
  show rb (fa e) _ = _
  congr 1; funext d e; cases h : wok d <;> simp [h]
def lstO (o : Option (Option D)) : Option (List D) := match o with
  | some (some (.lst ds)) => some ds
  | _ => none
@[simp] theorem lstO_some {ds : List D} : lstO (some (some (.lst ds))) = some ds := (rfl)
@[simp] theorem r_lstAt {i : Nat} : lstAt i e = lstO (e[i]?) := (rfl)
def ro {α β : Type} (o : Option α) (k : α → Res β) : Res β := match o with
  | some a => k a
  | none => .stuck
@[simp] theorem ro_some {a : α} {k : α → Res β} : ro (some a) k = k a := (rfl)
@[simp] theorem ro_none {k : α → Res β} : ro none k = .stuck := (rfl)
@[simp] theorem r_sApp {i : Nat} : sApp i fa e = ro (lstO (e[i]?)) fun _ => rb (fa e) fun d e => ro (lstO (e[i]?)) fun ds => if ds.length < LIM then .ok .nx (e.set i (some (.lst (ds ++ [d])))) else .stuck := by
  unfold sApp
  show _ = ro (lstAt i e) _
  cases lstAt i e with
  | none => rfl
  | some ds =>
    show rb (fa e) _ = _
    simp only [ro_some]
    congr 1; funext d e
    show _ = ro (lstAt i e) _
    cases lstAt i e <;> rfl
def asInt : D → Option Int
  | .int i => some i
  | _ => none
@[simp] theorem asInt_int {i : Int} : asInt (.int i) = some i := (rfl)
@[simp] theorem r_sPut {i : Nat} : sPut i fa fb e = rb (fa e) fun d e => ro (lstO (e[i]?)) fun _ => rb (fb e) fun k e => ro (lstO (e[i]?)) fun ds => ro (asInt k) fun z => ro (L2.ixN ds.length z) fun j => .ok .nx (e.set i (some (.lst (ds.set j d)))) := by
  show rb (fa e) _ = _
  congr 1; funext d e
  show _ = ro (lstAt i e) _
  cases lstAt i e with
  | none => rfl
  | some ds =>
    show rb (fb e) _ = _
    simp only [ro_some]
    congr 1; funext k e
    show _ = ro (lstAt i e) _
    cases lstAt i e with
    | none => rfl
    | some ds =>
      simp only [ro_some]
      cases k <;> first | rfl | (simp only [asInt_int, ro_some]; cases L2.ixN ds.length _ <;> rfl)
@[simp] theorem r_sPutW {i : Nat} : sPutW i fa fb e = rb (fa e) fun d e => ro (lstO (e[i]?)) fun _ => rb (fb e) fun k e => ro (lstO (e[i]?)) fun ds => ro (asInt k) fun z => ro (L2.ixN ds.length z) fun j => if d.sc then .ok .nx (e.set i (some (.lst (ds.set j d)))) else .stuck := by
  show rb (fa e) _ = _
  congr 1; funext d e
  show _ = ro (lstAt i e) _
  cases lstAt i e with
  | none => rfl
  | some ds =>
    show rb (fb e) _ = _
    simp only [ro_some]
    congr 1; funext k e
    show _ = ro (lstAt i e) _
    cases lstAt i e with
    | none => rfl
    | some ds =>
      simp only [ro_some]
      cases k <;> first | rfl | (simp only [asInt_int, ro_some]; cases L2.ixN ds.length _ <;> rfl)
@[simp] theorem r_eIxW {i : Nat} : eIxW i fa e = ro (lstO (e[i]?)) fun _ => rb (fa e) fun k e => ro (lstO (e[i]?)) fun ds => ro (asInt k) fun z => ro (L2.atI ds z) fun d => .ok d e := by
  unfold eIxW
  show _ = ro (lstAt i e) _
  cases lstAt i e with
  | none => rfl
  | some ds =>
    show rb (fa e) _ = _
    simp only [ro_some]
    congr 1; funext k e
    show _ = ro (lstAt i e) _
    cases lstAt i e with
    | none => rfl
    | some ds =>
      simp only [ro_some]
      cases k <;> first | rfl | (simp only [asInt_int, ro_some]; cases L2.atI ds _ <;> rfl)
@[simp] theorem r_sAug {i : Nat} {h : Int → Int → Int} : sAug h i fa e = ro ((e[i]?).bind id |>.bind asInt) fun x => rb (fa e) fun y e => ro (asInt y) fun y => .ok .nx (e.set i (some (.int (h x y)))) := by
  unfold sAug
  cases q : e[i]? with
  | none => rfl
  | some o =>
    cases o with
    | none => rfl
    | some d =>
      cases d with
      | int x =>
        show rb (fa e) _ = rb (fa e) _
        congr 1; funext y e; cases y <;> rfl
      | _ => rfl
def frR {β : Type} (r : FR) (k : D → D → Res β) (kx : Str → D → Res β) : Res β := match r with
  | .ok d io => k d io
  | .ex x io => kx x io
  | .stuck => .stuck
@[simp] theorem frR_ok {d io : D} {k : D → D → Res β} {kx : Str → D → Res β} : frR (.ok d io) k kx = k d io := (rfl)
@[simp] theorem frR_ex {x : Str} {io : D} {k : D → D → Res β} {kx : Str → D → Res β} : frR (.ex x io) k kx = kx x io := (rfl)
@[simp] theorem r_eCall {F : List D → FR} : eCall F r e = rb (r e) fun ds e => frR (F ds) (fun d _ => .ok d e) fun x _ => .ex x e := (rfl)
@[simp] theorem r_eCallW {F : List D → FR} {i : Nat} : eCallW F i r e = ro (lstO (e[i]?)) fun _ => rb (r e) fun ds e => ro (lstO (e[i]?)) fun ds0 => frR (F (.lst ds0 :: ds)) (fun d io => if wok io then .ok d (e.set i (some io)) else .stuck) fun x io => if wok io then .ex x (e.set i (some io)) else .stuck := by
  unfold eCallW
  show _ = ro (lstAt i e) _
  cases lstAt i e with
  | none => rfl
  | some ds =>
    show rb (r e) _ = _
    simp only [ro_some]
    congr 1; funext ds e
    show _ = ro (lstAt i e) _
    cases lstAt i e with
    | none => rfl
    | some ds0 =>
      simp only [ro_some]
      show frW i (F _) e = _
      cases F (.lst ds0 :: ds) <;> rfl
@[simp] theorem r_oNone : oNone e = .ok none e := (rfl)
@[simp] theorem r_oSome : oSome fa e = rb (fa e) fun d e => ro (asInt d) fun i => .ok (some i) e := by
  show rb (fa e) _ = _
  congr 1; funext d e; cases d <;> rfl
@[simp] theorem r_eSl {lo hi : M (Option Int)} : eSl fa lo hi e = rb (fa e) fun x e => rb (lo e) fun l e => rb (hi e) fun h e => lift (gSl x l h) e := (rfl)
@[simp] theorem r_iL : iL fa e = rb (fa e) fun d e => lift (asL d) e := (rfl)
@[simp] theorem r_iLs : iLs fa e = rb (fa e) fun d e => lift (asLs d) e := (rfl)
@[simp] theorem r_asLs {ds : List D} : asLs (.lst ds) = if ds.all D.sc then some ds else none := (rfl)
@[simp] theorem r_iT : iT fa e = rb (fa e) fun d e => lift (asT d) e := (rfl)
@[simp] theorem r_iS : iS fa e = rb (fa e) fun d e => lift (asStr d) e := (rfl)
@[simp] theorem r_iN {h : List D → Option (List D)} : iN h r e = rb (r e) fun x e => lift (h x) e := (rfl)
@[simp] theorem r_asL {ds : List D} : asL (.lst ds) = some ds := (rfl)
@[simp] theorem r_asT {ds : List D} : asT (.tup ds) = some ds := (rfl)
@[simp] theorem r_asStr {z : Str} : asStr (.str z) = some (strD z) := (rfl)
@[simp] theorem r_sFor {fi : M (List D)} {tg : D → M Unit} : sFor fi tg b e = rb (fi e) fun ds e => sForL tg b ds e := (rfl)
@[simp] theorem r_tgN {i : Nat} {d : D} : tgN i d e = .ok () (e.set i (some d)) := (rfl)
@[simp] theorem r_tgT {is : List Nat} {ds : List D} : tgT is (.tup ds) e = ro (setAll is ds e) fun e' => .ok () e' := by
  show (match setAll is ds e with | some e' => Res.ok () e' | none => .stuck) = _
  cases setAll is ds e <;> rfl
@[simp] theorem r_setAll_nil : setAll [] [] e = some e := (rfl)
@[simp] theorem r_setAll_cons {i : Nat} {is : List Nat} {d : D} {ds : List D} : setAll (i :: is) (d :: ds) e = setAll is ds (e.set i (some d)) := (rfl)
def lcK (is : List Nat) (e : PEnv) (r : Res (List D)) : Res D := match r with
  | .ok acc e1 => .ok (.lst acc) (restE is e e1)
  | _ => .stuck
@[simp] theorem lcK_ok {is : List Nat} {acc : List D} {e e1 : PEnv} : lcK is e (.ok acc e1) = .ok (.lst acc) (restE is e e1) := (rfl)
@[simp] theorem r_eLc {is : List Nat} {fi : M (List D)} {tg : D → M Unit} : eLc is fi tg t fa e = rb (fi e) fun ds e => lcK is e (lcGo is tg t fa ds [] (wipeE is e)) := (rfl)
@[simp] theorem wipeE_nil : wipeE [] e = e := (rfl)
@[simp] theorem wipeE_cons {v : Nat} {vs : List Nat} : wipeE (v :: vs) e = (wipeE vs e).set v none := (rfl)
@[simp] theorem restE_nil {e1 : PEnv} : restE [] e e1 = e1 := (rfl)
@[simp] theorem restE_cons {v : Nat} {vs : List Nat} {e1 : PEnv} : restE (v :: vs) e e1 = (restE vs e e1).set v ((e[v]?).getD none) := (rfl)
def finF (r : Res Fl) : FR := match r with
  | .ok (.rt d) e => .ok d (ioOf e)
  | .ok .nx e => .ok .non (ioOf e)
  | .ex c e => .ex c (ioOf e)
  | _ => .stuck
theorem r_runF {n : Nat} {ds : List D} : runF n a ds = finF (a (envOf n ds)) := (rfl)
@[simp] theorem finF_rt {d : D} : finF (.ok (.rt d) e) = .ok d (ioOf e) := (rfl)
@[simp] theorem finF_nx : finF (.ok .nx e) = .ok .non (ioOf e) := (rfl)
@[simp] theorem finF_ex {c : Str} : finF (.ex c e) = .ex c (ioOf e) := (rfl)
@[simp] theorem finF_ite {p : Prop} [Decidable p] {x y : Res Fl} : finF (if p then x else y) = if p then finF x else finF y := by split <;> rfl
@[simp] theorem ioOf_some {d : D} {e : PEnv} : ioOf (some d :: e) = d := (rfl)
@[simp] theorem ioOf_nil : ioOf [] = .non := (rfl)
@[simp] theorem r_envOf {n : Nat} {ds : List D} : envOf n ds = ds.map some ++ List.replicate (n - ds.length) none := (rfl)
section
variable {i j : Int} {x y : Str} {l l2 ds ds2 : List D} {k : Bool}
@[simp] theorem gSub_i : gSub (.int i) (.int j) = some (.int (i - j)) := (rfl)
@[simp] theorem gAdd_i : gAdd (.int i) (.int j) = some (.int (i + j)) := (rfl)
@[simp] theorem gAdd_l : gAdd (.lst l) (.lst l2) = if l.length + l2.length ≤ LIM then some (.lst (l ++ l2)) else none := (rfl)
@[simp] theorem gAdd_s : gAdd (.str x) (.str y) = if x.length + y.length ≤ LIM then some (.str (x ++ y)) else none := (rfl)
@[simp] theorem gMul_i : gMul (.int i) (.int j) = if mulOk i j then some (.int (i * j)) else none := (rfl)
@[simp] theorem gMul_s : gMul (.str x) (.int i) = if x.length * i.toNat ≤ LIM ∧ -(2 ^ 63) ≤ i ∧ i < 2 ^ 31 then some (.str (repS x i.toNat)) else none := (rfl)
@[simp] theorem gFdiv_i : gFdiv (.int i) (.int j) = if L2.CDiv i j ∨ divW j = true then some (.int (i / j)) else none := (rfl)
@[simp] theorem gShr_i : gShr (.int i) (.int j) = if 0 ≤ j then some (.int (i / 2 ^ j.toNat)) else none := (rfl)
@[simp] theorem gShl_i : gShl (.int i) (.int j) = if L2.CPow i j then some (.int (i * 2 ^ j.toNat)) else none := (rfl)
@[simp] theorem gMod_i : gMod (.int i) (.int j) = if 0 < j then some (.int (i % j)) else none := (rfl)
@[simp] theorem gPow_i : gPow (.int i) (.int j) = if L2.CPow i j then some (.int (i ^ j.toNat)) else none := (rfl)
@[simp] theorem gLt_i : gLt (.int i) (.int j) = some (.bl (decide (i < j))) := (rfl)
@[simp] theorem gLe_i : gLe (.int i) (.int j) = some (.bl (decide (i ≤ j))) := (rfl)
@[simp] theorem gGt_i : gGt (.int i) (.int j) = some (.bl (decide (j < i))) := (rfl)
@[simp] theorem gGe_i : gGe (.int i) (.int j) = some (.bl (decide (j ≤ i))) := (rfl)
@[simp] theorem gNeg_i : gNeg (.int i) = some (.int (-i)) := (rfl)
@[simp] theorem gEq_i : gEq (.int i) (.int j) = some (.bl (decide (i = j))) := (rfl)
@[simp] theorem gNe_i : gNe (.int i) (.int j) = some (.bl (!decide (i = j))) := (rfl)
@[simp] theorem gEq_s : gEq (.str x) (.str y) = some (.bl (decide (x = y))) := (rfl)
@[simp] theorem gNe_s : gNe (.str x) (.str y) = some (.bl (!decide (x = y))) := (rfl)
@[simp] theorem gLst_ : gLst ds = if ds.length ≤ PySem.sizeLine then some (.lst ds) else none := (rfl)
@[simp] theorem gTupD_ : gTupD ds = if ds.length ≤ PySem.sizeLine then some (.tup ds) else none := (rfl)
@[simp] theorem gLen_l : gLen [.lst ds] = some (.int ds.length) := (rfl)
@[simp] theorem gLen_t : gLen [.tup ds] = some (.int ds.length) := (rfl)
@[simp] theorem gLen_s : gLen [.str x] = if x.length ≤ LIM then some (.int x.length) else none := (rfl)
@[simp] theorem gMax2_i : gMax2 [.int i, .int j] = some (.int (if j > i then j else i)) := (rfl)
@[simp] theorem gMin2_i : gMin2 [.int i, .int j] = some (.int (if j < i then j else i)) := (rfl)
@[simp] theorem gInt1_i : gInt1 [.int i] = some (.int i) := (rfl)
@[simp] theorem gInt1_b : gInt1 [.bl k] = some (.int (if k then 1 else 0)) := (rfl)
@[simp] theorem gList1_l : gList1 [.lst ds] = some (.lst ds) := (rfl)
@[simp] theorem gIx_l : gIx (.lst ds) (.int i) = L2.atI ds i := (rfl)
@[simp] theorem gIx_t : gIx (.tup ds) (.int i) = L2.atI ds i := (rfl)
@[simp] theorem gIx_s : gIx (.str x) (.int i) = if x.length ≤ LIM then (L2.atI x.cps.toList i).map fun c => .str ⟨#[c]⟩ else none := (rfl)
@[simp] theorem gSl_l {o o2 : Option Int} : gSl (.lst ds) o o2 = some (.lst (cutA ds o o2)) := (rfl)
@[simp] theorem gSl_s {o o2 : Option Int} : gSl (.str x) o o2 = if x.length ≤ LIM then some (.str (L2.cutS x o o2)) else none := (rfl)
@[simp] theorem gRev_l : gRev (.lst ds) = some (.lst ds.reverse) := (rfl)
@[simp] theorem gEn_l : gEn [.lst ds] = some (enumD ds) := (rfl)
@[simp] theorem gZp_l : gZp [.lst ds, .lst ds2] = some (zipD ds ds2) := (rfl)
@[simp] theorem gR1_i : gR1 [.int j] = if smallI j then some (rngD 0 j.toNat) else none := (rfl)
@[simp] theorem gR2_i : gR2 [.int i, .int j] = if smallI i && smallI j then some (rngD i (j - i).toNat) else none := (rfl)
@[simp] theorem sc_i : (D.int i).sc = true := (rfl)
@[simp] theorem sc_s : (D.str x).sc = true := (rfl)
@[simp] theorem sc_b : (D.bl k).sc = true := (rfl)
@[simp] theorem sc_n : D.non.sc = true := (rfl)
@[simp] theorem flat_i : (D.int i).flat = true := (rfl)
@[simp] theorem flat_s : (D.str x).flat = true := (rfl)
@[simp] theorem flat_b : (D.bl k).flat = true := (rfl)
@[simp] theorem flat_n : D.non.flat = true := (rfl)
@[simp] theorem flat_l : (D.lst ds).flat = ds.all D.sc := (rfl)
@[simp] theorem flat_t : (D.tup ds).flat = ds.all D.sc := (rfl)
@[simp] theorem wok_l : wok (.lst ds) = ds.all D.sc := (rfl)
@[simp] theorem mok_l : mok (.lst ds) = ds.all fun x => x.sc || match x with | .tup es => es.all D.sc | _ => false := (rfl)
theorem all_ints (l : List Int) : (l.map D.int).all D.sc = true := by simp [List.all_map]
theorem all_strs (l : List Str) : (l.map D.str).all D.sc = true := by simp [List.all_map]
@[simp] theorem mok_dI (l : List Int) : mok (dI l) = true := by simp [List.all_map]
@[simp] theorem mok_dT (l : List Str) : mok (dT l) = true := by simp [List.all_map]
@[simp] theorem flat_dI (l : List Int) : (dI l).flat = true := all_ints l
@[simp] theorem flat_dT (l : List Str) : (dT l).flat = true := all_strs l
@[simp] theorem wok_dI (l : List Int) : wok (dI l) = true := all_ints l
end
end
end MV
namespace MV
open PySem (Str PyData)
section
variable {tg : D → M Unit} {b : M Fl} {e : PEnv} {t : M Bool} {fe : M D} {is : List Nat}
theorem for_inv {ds : List D} (I : Nat → PEnv → Prop) (h0 : I 0 e) (hs : ∀ i d e, ds[i]? = some d → I i e → ∃ e1 e2 fl, tg d e = .ok () e1 ∧ b e1 = .ok fl e2 ∧ (fl = .nx ∨ fl = .ct) ∧ I (i + 1) e2) :
    ∃ e', sForL tg b ds e = .ok .nx e' ∧ I ds.length e' := by
  induction ds generalizing e I with
  | nil => exact ⟨e, rfl, h0⟩
  | cons d r ih =>
    obtain ⟨e1, e2, fl, h1, h2, h3, h4⟩ := hs 0 d e rfl h0
    obtain ⟨e', h5, h6⟩ := ih (e := e2) (fun i => I (i + 1)) h4 (fun i d e hd hi => hs (i + 1) d e (by simpa using hd) hi)
    refine ⟨e', ?_, by simpa using h6⟩
    rw [sForL, bnd_of_ok h1, bnd_of_ok h2]
    rcases h3 with rfl | rfl <;> exact h5
theorem lc_pure {α : Type} {φ : α → D} {p : α → Bool} {g : α → D} : ∀ (l : List α) (acc : List D), acc.length + l.length ≤ LIM →
    (∀ x ∈ l, ∃ e1 e2, tg (φ x) e = .ok () e1 ∧ t e1 = .ok (p x) e2 ∧ (p x = true → ∃ e3, fe e2 = .ok (g x) e3 ∧ wipeE is e3 = e) ∧ (p x = false → wipeE is e2 = e)) →
    lcGo is tg t fe (l.map φ) acc e = .ok (acc ++ (l.filter p).map g) e
  | [], acc, _, _ => by simp [lcGo]
  | x :: l, acc, hl, h => by
    obtain ⟨e1, e2, h1, h2, h3, h4⟩ := h x List.mem_cons_self
    rw [List.map_cons, lcGo, bnd_of_ok h1, bnd_of_ok h2]
    have ih := fun acc' hl' => lc_pure l acc' hl' fun y hy => h y (List.mem_cons_of_mem _ hy)
    rw [List.length_cons] at hl
    cases q : p x with
    | true =>
      obtain ⟨e3, h5, h6⟩ := h3 q
      show bnd fe _ e2 = _
      rw [bnd_of_ok h5, if_pos (by omega : acc.length < LIM)]
      show lcGo is tg t fe (l.map φ) (acc ++ [g x]) (wipeE is e3) = _
      rw [h6, ih (acc ++ [g x]) (by rw [List.length_append, List.length_singleton]; omega)]
      simp [List.filter_cons, q]
    | false =>
      show lcGo is tg t fe (l.map φ) acc (wipeE is e2) = _
      rw [h4 q, ih acc (by omega)]
      simp [List.filter_cons, q]
theorem lc_inv {ds : List D} (I : Nat → List D → PEnv → Prop) : ∀ (acc : List D) (e : PEnv), I 0 acc e → acc.length + ds.length ≤ LIM →
    (∀ i d acc e, ds[i]? = some d → I i acc e → ∃ e1 e2 k, tg d e = .ok () e1 ∧ t e1 = .ok k e2 ∧ (k = true → ∃ y e3, fe e2 = .ok y e3 ∧ I (i + 1) (acc ++ [y]) (wipeE is e3)) ∧ (k = false → I (i + 1) acc (wipeE is e2))) →
    ∃ a' e', lcGo is tg t fe ds acc e = .ok a' e' ∧ I ds.length a' e' := by
  induction ds generalizing I with
  | nil => intro acc e h0 _ _; exact ⟨acc, e, rfl, h0⟩
  | cons d r ih =>
    intro acc e h0 hl hs
    obtain ⟨e1, e2, k, h1, h2, h3, h4⟩ := hs 0 d acc e rfl h0
    rw [List.length_cons] at hl
    rw [lcGo, bnd_of_ok h1, bnd_of_ok h2]
    cases k with
    | true =>
      obtain ⟨y, e3, h5, h6⟩ := h3 rfl
      obtain ⟨a', e', h7, h8⟩ := ih (fun i => I (i + 1)) (acc ++ [y]) (wipeE is e3) h6 (by rw [List.length_append, List.length_singleton]; omega) (fun i d acc e hd hi => hs (i + 1) d acc e (by simpa using hd) hi)
      refine ⟨a', e', ?_, by simpa using h8⟩
      show bnd fe _ e2 = _
      rw [bnd_of_ok h5, if_pos (by omega : acc.length < LIM)]
      exact h7
    | false =>
      obtain ⟨a', e', h7, h8⟩ := ih (fun i => I (i + 1)) acc (wipeE is e2) (h4 rfl) (by omega) (fun i d acc e hd hi => hs (i + 1) d acc e (by simpa using hd) hi)
      exact ⟨a', e', h7, by simpa using h8⟩
end
section
variable {α β : Type}
theorem cutA_to (l : List α) (k : Nat) : cutA l none (some (k : Int)) = l.take k := by
  unfold cutA
  rw [HT.sIx_none, HT.sIx_nat, List.drop_zero, Nat.sub_zero]
  apply List.ext_getElem?
  intro i
  rw [List.getElem?_take, List.getElem?_take]
  by_cases h : i < k
  · by_cases h2 : i < l.length
    · rw [if_pos (by omega), if_pos h]
    · rw [List.getElem?_eq_none (by omega)]; simp
  · rw [if_neg (by omega), if_neg h]
theorem cutA_from (l : List α) (k : Nat) : cutA l (some (k : Int)) none = l.drop k := by
  unfold cutA
  rw [HT.sIx_none, HT.sIx_nat, List.take_of_length_le (by rw [List.length_drop]; omega)]
  apply List.ext_getElem?
  intro i
  rw [List.getElem?_drop, List.getElem?_drop]
  by_cases h2 : k ≤ l.length
  · rw [Nat.min_eq_left h2]
  · rw [List.getElem?_eq_none (by omega), List.getElem?_eq_none (by omega)]
theorem cutA_mid (l : List α) (i j : Nat) : cutA l (some (i : Int)) (some (j : Int)) = (l.drop i).take (j - i) := by
  unfold cutA
  rw [HT.sIx_nat, HT.sIx_nat]
  apply List.ext_getElem?
  intro m
  rw [List.getElem?_take, List.getElem?_take, List.getElem?_drop, List.getElem?_drop]
  by_cases h : i ≤ l.length
  · rw [Nat.min_eq_left h]
    by_cases h2 : i + m < l.length
    · by_cases h3 : m < j - i
      · rw [if_pos (by omega), if_pos h3]
      · rw [if_neg (by omega), if_neg h3]
    · rw [List.getElem?_eq_none (by omega)]; simp
  · rw [List.getElem?_eq_none (by omega), List.getElem?_eq_none (by omega)]; simp
theorem cutA_map (f : α → β) (l : List α) (lo hi : Option Int) : cutA (l.map f) lo hi = (cutA l lo hi).map f := by
  unfold cutA
  rw [List.length_map, List.map_take, List.map_drop]
theorem atI_eq (l : List α) (j : Nat) : L2.atI l (j : Int) = l[j]? := by
  cases h : l[j]? with
  | some v => exact L2.atI_nat h
  | none =>
    rw [List.getElem?_eq_none_iff] at h
    unfold L2.atI L2.ixN
    rw [if_pos (by omega), if_neg (by omega)]
    rfl
end
theorem toPs_map {α : Type} {f : α → D} {g : α → PyData} (h : ∀ x, (f x).toP = some (g x)) : ∀ l : List α, toPs (l.map f) = some (l.map g)
  | [] => by rw [List.map_nil, toPs]; rfl
  | x :: l => by rw [List.map_cons, toPs, h, toPs_map h l]; rfl
theorem toP_int (i : Int) : (D.int i).toP = some (.int i) := by rw [D.toP]
theorem toP_str (x : Str) : (D.str x).toP = some (.str x) := by rw [D.toP]
theorem toP_lst {ds : List D} {ps : List PyData} (h : toPs ds = some ps) : (D.lst ds).toP = some (.list ps) := by rw [D.toP, h]; rfl
theorem eqvAll_ints : ∀ a b : List Int, PyData.eqvAll (a.map .int) (b.map .int) = decide (a = b)
  | [], [] => by simp [PyData.eqvAll]
  | [], _ :: _ => by simp [PyData.eqvAll]
  | _ :: _, [] => by simp [PyData.eqvAll]
  | x :: a, y :: b => by
    rw [List.map_cons, List.map_cons, PyData.eqvAll, eqvAll_ints a b, PyData.eqv, Bool.eq_iff_iff]
    simp
theorem eqvAll_strs : ∀ a b : List Str, PyData.eqvAll (a.map .str) (b.map .str) = decide (a = b)
  | [], [] => by simp [PyData.eqvAll]
  | [], _ :: _ => by simp [PyData.eqvAll]
  | _ :: _, [] => by simp [PyData.eqvAll]
  | x :: a, y :: b => by
    rw [List.map_cons, List.map_cons, PyData.eqvAll, eqvAll_strs a b, PyData.eqv, Bool.eq_iff_iff]
    simp
theorem lay_ints : ∀ a : List Int, PyData.canLayAll0 (a.map .int) = true
  | [] => by simp [PyData.canLayAll0]
  | x :: a => by rw [List.map_cons, PyData.canLayAll0, PyData.canLay0, lay_ints a]; rfl
theorem depth_ints : ∀ a : List Int, PyData.depthAll (a.map .int) = 0
  | [] => by simp [PyData.depthAll]
  | x :: a => by rw [List.map_cons, PyData.depthAll, PyData.depth, depth_ints a]; rfl
def okS (x : Str) : Prop := PyData.strOk x = true
theorem lay_strs : ∀ a : List Str, (∀ x ∈ a, okS x) → PyData.canLayAll0 (a.map .str) = true
  | [], _ => by simp [PyData.canLayAll0]
  | x :: a, h => by rw [List.map_cons, PyData.canLayAll0, PyData.canLay0, lay_strs a fun y hy => h y (List.mem_cons_of_mem _ hy), h x List.mem_cons_self]; rfl
theorem depth_strs : ∀ a : List Str, PyData.depthAll (a.map .str) = 0
  | [] => by simp [PyData.depthAll]
  | x :: a => by rw [List.map_cons, PyData.depthAll, PyData.depth, depth_strs a]; rfl
theorem shaped_ints (a : List Int) : PySem.SeqAt.shaped (.list (a.map .int)) = true := by
  unfold PySem.SeqAt.shaped
  rw [PyData.canLay0, lay_ints, PyData.depth, depth_ints]; rfl
theorem shaped_strs {a : List Str} (h : ∀ x ∈ a, okS x) : PySem.SeqAt.shaped (.list (a.map .str)) = true := by
  unfold PySem.SeqAt.shaped
  rw [PyData.canLay0, lay_strs a h, PyData.depth, depth_strs]; rfl
theorem deq_dI (a b : List Int) : deq (dI a) (dI b) = some (decide (a = b)) := by
  have h1 : (dI a).toP = some (.list (a.map .int)) := toP_lst (toPs_map toP_int a)
  have h2 : (dI b).toP = some (.list (b.map .int)) := toP_lst (toPs_map toP_int b)
  show (match (dI a).toP, (dI b).toP with | some p, some q => if PySem.SeqAt.shaped p && PySem.SeqAt.shaped q then some (PyData.eqv p q) else none | _, _ => none) = _
  rw [h1, h2]
  simp only [shaped_ints, Bool.and_self, if_true]
  rw [PyData.eqv, eqvAll_ints]
theorem deq_dT {a b : List Str} (ha : ∀ x ∈ a, okS x) (hb : ∀ x ∈ b, okS x) : deq (dT a) (dT b) = some (decide (a = b)) := by
  have h1 : (dT a).toP = some (.list (a.map .str)) := toP_lst (toPs_map toP_str a)
  have h2 : (dT b).toP = some (.list (b.map .str)) := toP_lst (toPs_map toP_str b)
  show (match (dT a).toP, (dT b).toP with | some p, some q => if PySem.SeqAt.shaped p && PySem.SeqAt.shaped q then some (PyData.eqv p q) else none | _, _ => none) = _
  rw [h1, h2]
  simp only [shaped_strs ha, shaped_strs hb, Bool.and_self, if_true]
  rw [PyData.eqv, eqvAll_strs]
theorem gEq_dI (a b : List Int) : gEq (dI a) (dI b) = some (.bl (decide (a = b))) := by unfold gEq; rw [deq_dI]; rfl
theorem gNe_dI (a b : List Int) : gNe (dI a) (dI b) = some (.bl (!decide (a = b))) := by unfold gNe; rw [deq_dI]; rfl
theorem gEq_dT {a b : List Str} (ha : ∀ x ∈ a, okS x) (hb : ∀ x ∈ b, okS x) : gEq (dT a) (dT b) = some (.bl (decide (a = b))) := by unfold gEq; rw [deq_dT ha hb]; rfl
theorem gNe_dT {a b : List Str} (ha : ∀ x ∈ a, okS x) (hb : ∀ x ∈ b, okS x) : gNe (dT a) (dT b) = some (.bl (!decide (a = b))) := by unfold gNe; rw [deq_dT ha hb]; rfl
def Sg (s : Str) : Prop := ∃ c : Nat, s = ⟨#[c]⟩ ∧ 97 ≤ c ∧ c ≤ 122
theorem Sg.ok {s : Str} (h : Sg s) : okS s := by
  obtain ⟨c, rfl, _, h2⟩ := h
  unfold okS PyData.strOk
  simp
  omega
def Tx (t : List Str) : Prop := ∀ x ∈ t, Sg x
theorem Tx.ok {t : List Str} (h : Tx t) : ∀ x ∈ t, okS x := fun x hx => (h x hx).ok
theorem okNil : ∀ x ∈ ([] : List Str), okS x := fun _ h => by cases h
theorem Tx.take {t : List Str} (h : Tx t) (k : Nat) : Tx (t.take k) := fun x hx => h x (List.mem_of_mem_take hx)
theorem Tx.drop {t : List Str} (h : Tx t) (k : Nat) : Tx (t.drop k) := fun x hx => h x (List.mem_of_mem_drop hx)
theorem Tx.append {t u : List Str} (h : Tx t) (h2 : Tx u) : Tx (t ++ u) := fun x hx => (List.mem_append.mp hx).elim (h x) (h2 x)
theorem Tx.set {t : List Str} (h : Tx t) {x : Str} (hx : Sg x) (k : Nat) : Tx (t.set k x) := fun y hy => by
  rcases List.mem_or_eq_of_mem_set hy with hy | rfl
  · exact h y hy
  · exact hx
end MV
namespace MV
open PySem (Str PyData)
abbrev dN (l : List Nat) : D := .lst (l.map fun k : Nat => D.int (k : Int))
theorem dN_dI (l : List Nat) : dN l = dI (l.map fun k : Nat => (k : Int)) := by
  show D.lst _ = D.lst _
  rw [List.map_map]; rfl
theorem cast_inj {a b : List Nat} : (a.map (fun k : Nat => (k : Int)) = b.map fun k : Nat => (k : Int)) ↔ a = b :=
  ⟨fun h => (List.map_inj_right (fun x y h => by omega)).mp h, fun h => by rw [h]⟩
theorem gEq_dN (a b : List Nat) : gEq (dN a) (dN b) = some (.bl (decide (a = b))) := by
  rw [dN_dI, dN_dI, gEq_dI]; simp only [cast_inj]
theorem gNe_dN (a b : List Nat) : gNe (dN a) (dN b) = some (.bl (!decide (a = b))) := by
  rw [dN_dI, dN_dI, gNe_dI]; simp only [cast_inj]
theorem flat_dN (l : List Nat) : (dN l).flat = true := by rw [dN_dI]; exact flat_dI _
theorem rng0 (n : Nat) : rngD 0 n = (List.range n).map fun k : Nat => D.int (k : Int) := by
  unfold rngD; simp
theorem rngN (m n : Nat) : rngD (m : Int) n = (List.range' m n).map fun k : Nat => D.int (k : Int) := by
  unfold rngD
  rw [List.range'_eq_map_range, List.map_map]
  apply List.map_congr_left
  intro k _
  simp
theorem rngN_get {m n i : Nat} {d : D} (h : (rngD (m : Int) n)[i]? = some d) : i < n ∧ d = .int ((m + i : Nat) : Int) := by
  rw [rngN] at h
  rw [List.getElem?_map] at h
  by_cases hi : i < n
  · rw [List.getElem?_range' hi] at h
    simp at h; exact ⟨hi, by rw [← h]; congr 1⟩
  · rw [List.getElem?_eq_none (by simp; omega)] at h; cases h
theorem rng0_get {n i : Nat} {d : D} (h : (rngD 0 n)[i]? = some d) : i < n ∧ d = .int (i : Int) := by
  have := rngN_get (m := 0) (n := n) (i := i) (d := d) (by simpa using h)
  simpa using this
theorem small_of {i : Int} (h : -1000000 ≤ i) (h2 : i ≤ 1000000) : smallI i = true := decide_eq_true (by omega)
theorem lc_nat {is : List Nat} {tg : D → M Unit} {t : M Bool} {fe : M D} {e : PEnv} (p : Nat → Bool) (g : Nat → D) (l : List Nat) (hl : l.length ≤ LIM)
    (h : ∀ k ∈ l, ∃ e1 e2, tg (.int (k : Int)) e = .ok () e1 ∧ t e1 = .ok (p k) e2 ∧ (p k = true → ∃ e3, fe e2 = .ok (g k) e3 ∧ wipeE is e3 = e) ∧ (p k = false → wipeE is e2 = e)) :
    lcGo is tg t fe (l.map fun k : Nat => D.int (k : Int)) [] e = .ok ((l.filter p).map g) e := by
  have := lc_pure (φ := fun k : Nat => D.int (k : Int)) (p := p) (g := g) l [] (by simpa using hl) h
  simpa using this
section
variable {α : Type} {a b c d x : α} {l : List α}
@[simp] theorem atI0 : L2.atI (a :: l) 0 = some a := by rw [show (0 : Int) = ((0 : Nat) : Int) from rfl, atI_eq]; rfl
@[simp] theorem atI1 : L2.atI (a :: b :: l) 1 = some b := by rw [show (1 : Int) = ((1 : Nat) : Int) from rfl, atI_eq]; rfl
@[simp] theorem atI2 : L2.atI (a :: b :: c :: l) 2 = some c := by rw [show (2 : Int) = ((2 : Nat) : Int) from rfl, atI_eq]; rfl
@[simp] theorem atI3 : L2.atI (a :: b :: c :: d :: l) 3 = some d := by rw [show (3 : Int) = ((3 : Nat) : Int) from rfl, atI_eq]; rfl
@[simp] theorem atI4 : L2.atI (a :: b :: c :: d :: x :: l) 4 = some x := by rw [show (4 : Int) = ((4 : Nat) : Int) from rfl, atI_eq]; rfl
end
theorem cutA_from1 {α : Type} (l : List α) (k : Nat) : cutA l (some ((k : Int) + 1)) none = l.drop (k + 1) := by
  rw [show ((k : Int) + 1) = ((k + 1 : Nat) : Int) by omega, cutA_from]
theorem cutA_mid2 {α : Type} (l : List α) (i j : Nat) : cutA l (some (i : Int)) (some ((i : Int) + (j : Int))) = (l.drop i).take j := by
  rw [show ((i : Int) + (j : Int)) = ((i + j : Nat) : Int) by omega, cutA_mid, show i + j - i = j by omega]
theorem gEq_nT {a : List Str} (ha : ∀ x ∈ a, okS x) : gEq (dT a) (.lst []) = some (.bl (decide (a = []))) := gEq_dT ha okNil
theorem gNe_nT {a : List Str} (ha : ∀ x ∈ a, okS x) : gNe (dT a) (.lst []) = some (.bl (!decide (a = []))) := gNe_dT ha okNil
@[simp] theorem gEq_nn : gEq (.lst []) (.lst []) = some (.bl true) := gEq_dN [] []
@[simp] theorem gNe_nn : gNe (.lst []) (.lst []) = some (.bl false) := gNe_dN [] []
@[simp] theorem filter_no {α : Type} (l : List α) : l.filter (fun _ => false) = [] := by induction l <;> simp_all
@[simp] theorem r_eIsi {T : String} {f : M D} {e : PEnv} : eIsi T f e = rb (f e) fun x e => lift (gIsi T x) e := (rfl)
section
variable {ds : List D} {i : Int} {k : Bool} {x : Str}
@[simp] theorem isi_list {ds : List D} : gIsi "list" (.lst ds) = some (.bl true) := (rfl)
@[simp] theorem isi_int {i : Int} : gIsi "int" (.int i) = some (.bl true) := (rfl)
@[simp] theorem isi_boolI {i : Int} : gIsi "bool" (.int i) = some (.bl false) := (rfl)
@[simp] theorem isi_boolB {b : Bool} : gIsi "bool" (.bl b) = some (.bl true) := (rfl)
@[simp] theorem isi_tup {ds : List D} : gIsi "tuple" (.tup ds) = some (.bl true) := (rfl)
@[simp] theorem isi_str {x : Str} : gIsi "str" (.str x) = some (.bl true) := (rfl)
end
theorem hsz0 : (0 : Nat) ≤ PySem.sizeLine := Nat.zero_le _
@[simp] theorem r_eSlQ {i : Nat} {lo hi : M (Option Int)} {e : PEnv} : eSlQ i lo hi e = ro (lstO (e[i]?)) fun _ => rb (lo e) fun l e => rb (hi e) fun h e => ro (lstO (e[i]?)) fun ds => if ds.all D.sc then .ok (.lst (cutA ds l h)) e else .stuck := by
  unfold eSlQ
  show _ = ro (lstAt i e) _
  cases lstAt i e with
  | none => rfl
  | some ds =>
    show rb (lo e) _ = _
    simp only [ro_some]
    congr 1; funext l e
    show rb (hi e) _ = _
    congr 1; funext h e
    show _ = ro (lstAt i e) _
    cases lstAt i e with
    | none => rfl
    | some ds => rfl
theorem cutA_len {α : Type} (l : List α) (lo hi : Option Int) : (cutA l lo hi).length ≤ l.length := by
  unfold cutA; rw [List.length_take, List.length_drop]; omega
end MV
namespace MV
open PySem PySem.Spec PyProof.Rows L2
def tru : D → Option Bool
  | .non => some false
  | .bl b => some b
  | .int i => some (i != 0)
  | .lst ds => some (!ds.isEmpty)
  | .tup ds => some (!ds.isEmpty)
  | _ => none
theorem rpl_empty {K : PySem.W.Frag} {x : Bool} {G : Hp} {xs : List V} {ds : List D} (r : RpL K x G xs ds) : (!ds.isEmpty) = !xs.isEmpty := by cases r <;> rfl
theorem tru_rp {K : PySem.W.Frag} {G H : Hp} {v : V} {d : D} {k : Bool} (e : Ex G H) (h : Rp K true G v d) (q : tru d = some k) : TruV K v H k := by
  cases h with
  | sc z => cases d <;> cases z <;> cases q <;> rfl
  | lst s r => cases q; exact .inl ⟨_, ex_sql e s.any, rpl_empty r⟩
  | tup s r => cases q; exact .inr (.inl ⟨_, ex_sqt e s.any, rpl_empty r⟩)
  | dic => cases q
  | dit => cases q
  | exc => cases q
section
variable {X : Cx} {cf : Cf} {W : WX} {c : Cls} {n n1 n2 : Bool}
theorem SE.nn {e : Expr} {te : TE} {f : M D} (h : SE X cf W c n e te f) : SE X cf W c false e te f := ⟨h.p, fun R Hs env σ H F wf r Q => by
  have h := h.s R Hs env σ H F wf r Q
  cases q : f env with
  | ok d env' => rw [q] at h; exact fun k => h fun v Hs' H' s r' p nr => k v Hs' H' s r' p fun z => by cases z
  | ex x env' => rw [q] at h; exact h
  | stuck => trivial⟩
def tOrT (K : PySem.W.Frag) (ta tb : TE) : TE := fun σ H Q => ta σ H fun x H1 => ∃ k, TruV K x H1 k ∧ if k = true then Q x H1 else tb σ H1 Q
theorem pe_orT {a b : Expr} {rest : List Expr} {ta tb : TE} {pos : Pos} (ha : PE X a ta) (hb : PE X (.BoolOp .Or (b :: rest) pos) tb) : PE X (.BoolOp .Or (a :: b :: rest) pos) (tOrT X.K ta tb) := by
  refine ⟨fun pins s σ H Q I h => ?_⟩
  refine BoolOp_or (thn (ha.run pins s σ H _ I h) fun v s1 ⟨x, H1, I1, r1, q1⟩ => ?_)
  obtain ⟨k, e1, q1⟩ := q1
  refine thn (tru_ok pins s1 σ H1 x v (fun c H2 => c = k ∧ H2 = H1) I1 r1 ⟨k, e1, rfl, rfl⟩) fun c s2 ⟨H2, I2, q2⟩ => ?_
  obtain ⟨rfl, rfl⟩ := q2
  cases c with
  | false => exact hb.run pins s2 σ H2 Q I2 q1
  | true => exact ⟨x, H2, I2, r1, q1⟩
def eOrT (a b : M D) : M D := bnd a fun x => bnd (lift (tru x)) fun k => if k then ret x else b
theorem sd_orT {ta tb : TE} {fa fb : M D} (ha : Sd cf W c n ta fa) (hb : Sd cf W c n tb fb) : Sd cf W c n (tOrT cf.K ta tb) (eOrT fa fb) := by
  refine Sd.mk (fun R Hs env σ H F wf r d env' q Q k => ?_) (fun R Hs env σ H F wf r x env' q Q k => ?_)
  · obtain ⟨d1, env1, q1, q⟩ := bnd_ok q
    obtain ⟨b, env2, q2, q⟩ := bnd_ok q
    obtain ⟨qb, rfl⟩ := lift_ok q2
    refine ha.ok r q1 fun v Hs1 H1 s1 r1 p1 nr1 => ⟨b, tru_rp (rg_sub r1.exs) p1 qb, ?_⟩
    cases b with
    | false => exact hb.ok r1 q fun v2 Hs2 H2 s2 r2 p2 nr => k v2 Hs2 H2 (s1.trans s2) r2 (p2.mono (rg_start s1.dom)) fun z hf => (nr z hf).mono (rg_start (c := .V) (H0 := R.H0) (H := H2) (wf := wf) s1.dom)
    | true => cases q; exact k _ Hs1 H1 s1 r1 p1 nr1
  · rcases bnd_ex q with q | ⟨d1, env1, q1, q⟩
    · exact ha.exn r q k
    · rcases bnd_ex q with q | ⟨b, env2, q2, q⟩
      · exact (lift_ex q).elim
      · obtain ⟨qb, rfl⟩ := lift_ok q2
        refine ha.ok r q1 fun v Hs1 H1 s1 r1 p1 _ => ⟨b, tru_rp (rg_sub r1.exs) p1 qb, ?_⟩
        cases b with
        | false => exact hb.exn r1 q fun Hs2 H2 s2 r2 => k Hs2 H2 (s1.trans s2) r2
        | true => cases q
theorem se_orT {a b : Expr} {rest : List Expr} {ta tb : TE} {fa fb : M D} {pos : Pos} (hK : cf.K = X.K) (h : SE X cf W c n a ta fa) (h2 : SE X cf W c n (.BoolOp .Or (b :: rest) pos) tb fb) : SE X cf W c n (.BoolOp .Or (a :: b :: rest) pos) (tOrT cf.K ta tb) (eOrT fa fb) := ⟨hK ▸ pe_orT h.p h2.p, sd_orT h.s h2.s⟩
def tTr (f : M D) : M Bool := bnd f fun d => lift (tru d)
def tTru (K : PySem.W.Frag) (ta : TE) : TT := fun σ H Q => ta σ H fun x H' => ∃ k, TruV K x H' k ∧ Q k H'
theorem sdt_tru {te : TE} {f : M D} (h : Sd cf W c n te f) : SdT cf W (tTru cf.K te) (tTr f) := by
  refine SdT.mk (fun R Hs env σ H F wf r d env' q Q k => ?_) (fun R Hs env σ H F wf r x env' q Q k => ?_)
  · obtain ⟨d1, env1, q1, q⟩ := bnd_ok q
    obtain ⟨qg, rfl⟩ := lift_ok q
    exact h.ok r q1 fun v Hs1 H1 s1 r1 p1 _ => ⟨d, tru_rp (rg_sub r1.exs) p1 qg, k Hs1 H1 s1 r1⟩
  · rcases bnd_ex q with q | ⟨d1, env1, q1, q⟩
    · exact h.exn r q k
    · exact (lift_ex q).elim
theorem st_tru {e : Expr} {te : TE} {f : M D} (hK : cf.K = X.K) (h : SE X cf W c n e te f) (he : ∀ whole, isTrue e X.env whole = (do let v ← whole; standAt e.pos; holding [v] (truthy v)) := by intro _; rfl) : ST X cf W e (tTru cf.K te) (tTr f) := ⟨hK ▸ pt_truth h.p he, sdt_tru h.s⟩
end
section
variable {e : PEnv} {fa fb : M D} {b : Bool} {i : Int} {ds : List D}
@[simp] theorem tru_b : tru (.bl b) = some b := (rfl)
@[simp] theorem tru_i : tru (.int i) = some (i != 0) := (rfl)
@[simp] theorem tru_l : tru (.lst ds) = some (!ds.isEmpty) := (rfl)
@[simp] theorem tru_t : tru (.tup ds) = some (!ds.isEmpty) := (rfl)
@[simp] theorem tru_n : tru .non = some false := (rfl)
@[simp] theorem r_tTr : tTr fa e = rb (fa e) fun x e => lift (tru x) e := (rfl)
@[simp] theorem r_eOrT : eOrT fa fb e = rb (fa e) fun x e => rb (lift (tru x) e) fun k e => if k then .ok x e else fb e := by
  show rb (fa e) _ = _
  congr 1; funext x e
  show rb _ _ = _
  congr 1; funext k e; cases k <;> rfl
end
theorem for_fold {σ α : Type} {tg : D → M Unit} {b : M Fl} {φ : α → D} (R : σ → PEnv → Prop) (f : σ → α → σ) : ∀ (l : List α) (s : σ) (e : PEnv), R s e →
    (∀ s x e, x ∈ l → R s e → ∃ e1 e2 fl, tg (φ x) e = .ok () e1 ∧ b e1 = .ok fl e2 ∧ (fl = .nx ∨ fl = .ct) ∧ R (f s x) e2) →
    ∃ e', sForL tg b (l.map φ) e = .ok .nx e' ∧ R (l.foldl f s) e'
  | [], s, e, h0, _ => ⟨e, rfl, h0⟩
  | x :: l, s, e, h0, hs => by
    obtain ⟨e1, e2, fl, h1, h2, h3, h4⟩ := hs s x e List.mem_cons_self h0
    obtain ⟨e', h5, h6⟩ := for_fold R f l (f s x) e2 h4 fun s y e hy => hs s y e (List.mem_cons_of_mem _ hy)
    refine ⟨e', ?_, h6⟩
    rw [List.map_cons, sForL, bnd_of_ok h1, bnd_of_ok h2]
    rcases h3 with rfl | rfl <;> exact h5
end MV
namespace MV
open PySem PySem.Spec PyProof.Rows L2
def gLR1 : D → Option D
  | .int j => if smallI j && decide (j.toNat ≤ LIM) then some (.lst (rngD 0 j.toNat)) else none
  | _ => none
def gLR2 : D → D → Option D
  | .int i, .int j => if smallI i && smallI j && decide ((j - i).toNat ≤ LIM) then some (.lst (rngD i (j - i).toNat)) else none
  | _, _ => none
theorem rpl_rng {K : PySem.W.Frag} {G : Hp} (i j : Int) : RpL K true G (rgV i j) (rngD i (j - i).toNat) := by
  unfold rgV rngD
  generalize List.range (j - i).toNat = l
  induction l with
  | nil => exact .nil
  | cons a r ih => exact .cons (.int _) ih
theorem rgOk_of {i j : Int} (h : smallI i = true) (h2 : smallI j = true) (h3 : (j - i).toNat ≤ LIM) : RgOk i j := by
  have h := of_decide_eq_true h
  have h2 := of_decide_eq_true h2
  exact ⟨h.1, h.2, h2.1, h2.2, Nat.le_trans h3 (by decide)⟩
def rLR2 : R2 := fun x y H Q => ∃ i j, x = .int i ∧ y = .int j ∧ RgOk i j ∧ ∀ q, H q = none → Q (.ref q) (upd H q (.lst (rgV i j)))
theorem snd_LR2 {K : PySem.W.Frag} : Snd2 K true rLR2 gLR2 := fun G H x y d1 d2 d e h h2 q Q k => by
  unfold gLR2 at q
  split at q
  · rename_i i j
    split at q
    · rename_i hc
      cases q
      have hc := Bool.and_eq_true_iff.mp hc
      have hc2 := of_decide_eq_true hc.2
      have hc1 := Bool.and_eq_true_iff.mp hc.1
      exact ⟨i, j, h.int_inv, h2.int_inv, rgOk_of hc1.1 hc1.2 hc2, fun p hp => k _ _ (Ex.new hp) (new_rp e hp (rpl_rng i j)) (new_nn (G := G) hp (rpl_rng i j))⟩
    · cases q
  · cases q
section
variable {X : Cx} {cf : Cf} {W : WX} {c : Cls} {n n1 n2 : Bool}
theorem se_lrg2 {a b : Expr} {ta tb : TE} {fa fb : M D} {p p2 pos pos2 : Pos} (hc : X.calm = true) (hm : X.mg "list" = none) (hm2 : X.mg "range" = none) (ha : SE X cf W c n1 a ta fa) (hb : SE X cf W c n2 b tb fb) (hg : Gl X "list" := by rfl) (hg2 : Gl X "range" := by rfl)
    (na : starEach [.Call (.Name "range" p2) [a, b] [] pos2] X.env = (false, eval (.Call (.Name "range" p2) [a, b] [] pos2) X.env) :: starEach [] X.env := by rfl) (nb : starEach [a, b] X.env = (false, eval a X.env) :: starEach [b] X.env := by rfl) (nc : starEach [b] X.env = (false, eval b X.env) :: starEach [] X.env := by rfl) (hp : (backTo pos2 (starEach [b] X.env)).any (·.1) = false := by rfl) :
    SE X cf W c true (.Call (.Name "list" p) [.Call (.Name "range" p2) [a, b] [] pos2] [] pos) (tOp rLR2 ta tb) (e2 gLR2 fa fb) := ⟨show PE X _ (tLstRg (tRg2 ta tb)) from pe_listRg hc hg hm (prg_2 hg2 hm2 ha.p hb.p nb nc hp) na, sd_op2 snd_LR2 ha.s hb.s⟩
end
section
variable {i j : Int}
@[simp] theorem gLR1_i : gLR1 (.int j) = if smallI j && decide (j.toNat ≤ LIM) then some (.lst (rngD 0 j.toNat)) else none := (rfl)
@[simp] theorem gLR2_i : gLR2 (.int i) (.int j) = if smallI i && smallI j && decide ((j - i).toNat ≤ LIM) then some (.lst (rngD i (j - i).toNat)) else none := (rfl)
end
end MV
namespace MV
open PySem PySem.Spec PyProof.Rows L2
def tyD : D → String
  | .lst _ => "list"
  | .str _ => "str"
  | _ => ""
def eM (T : String) (g : D → List D → Option D) (fo : M D) (fa : M (List D)) : M D := bnd fo fun x => if tyD x == T then bnd fa fun xs => lift (g x xs) else fail
section
variable {X : Cx} {cf : Cf} {W : WX} {c : Cls} {n n1 n2 : Bool}
end
def eqD (z y : D) : Bool := match z.toV, y.toV with
  | some a, some b => eqV a b
  | _, _ => false
def gIndex : D → List D → Option D
  | .lst ds, [y] => if y.sc && ds.all D.sc then (ds.findIdx? fun z => eqD z y).map fun j => .int (j : Nat) else none
  | _, _ => none
section
variable {X : Cx} {cf : Cf} {W : WX} {c : Cls} {n n1 n2 : Bool}
end
section
variable {e : PEnv} {fo : M D} {fa : M (List D)} {T : String} {g : D → List D → Option D} {ds : List D} {y : D}
@[simp] theorem r_eM : eM T g fo fa e = rb (fo e) fun x e => if tyD x == T then rb (fa e) fun xs e => lift (g x xs) e else .stuck := by
  show rb (fo e) _ = _
  congr 1; funext x e; cases tyD x == T <;> rfl
@[simp] theorem tyD_l : tyD (.lst ds) = "list" := (rfl)
@[simp] theorem gIndex_l : gIndex (.lst ds) [y] = if y.sc && ds.all D.sc then (ds.findIdx? fun z => eqD z y).map fun j => .int (j : Nat) else none := (rfl)
end
end MV
namespace MV
open PySem PySem.Spec PyProof.Rows L2
section
variable {K : PySem.W.Frag} {H H' : Hp}
theorem Own.emp_lst {F : List Addr} {v : V} {ds : List D} (h : Own K emp H F v (.lst ds)) : ∃ p F' xs, v = .ref p ∧ F = p :: F' ∧ H p = some (.lst xs) ∧ OwnL K emp H F' xs ds := by
  cases h with
  | leaf h => obtain ⟨a, xs, _, h, _⟩ := h.lst_inv; cases h
  | lst h r => exact ⟨_, _, _, rfl, rfl, h, r⟩
theorem Own.off {p : Addr} {o : HO} {F : List Addr} {v : V} {d : D} (h : Own K emp H F v d) (hp : p ∉ F) : Own K emp (upd H p o) F v d := h.keep (Ex.refl _) fun a m u e => by
  rw [upd_ne (fun z => hp (by rw [← z]; exact m))]; exact e
theorem OwnL.within : ∀ {F : List Addr} {xs : List V} {ds : List D}, OwnL K emp H F xs ds → F.Nodup → ∀ (j : Nat) (es : List D), ds[j]? = some (.lst es) →
    ∃ q ys Fq, xs[j]? = some (.ref q) ∧ H q = some (.lst ys) ∧ q ∈ F ∧ OwnL K emp H Fq ys es ∧ ∀ ys' es', (∀ H', (∀ a ∈ Fq, H' a = H a) → OwnL K emp H' Fq ys' es') → OwnL K emp (upd H q (.lst ys')) F xs (ds.set j (.lst es'))
  | _, _, _, .nil, _, j, es, h => by cases h
  | _, v :: vs, d :: ds, .cons (F := F1) (F' := F2) h r, nd, 0, es, hd => by
    cases Option.some.inj hd
    obtain ⟨q, Fq, ys, rfl, rfl, hq, ro⟩ := h.emp_lst
    have nd' := List.nodup_append.mp nd
    have nq : q ∉ Fq := (List.nodup_cons.mp nd'.1).1
    refine ⟨q, ys, Fq, rfl, hq, List.mem_append_left _ List.mem_cons_self, ro, fun ys' es' hn => ?_⟩
    exact .cons (.lst upd_same (hn _ fun a m => upd_ne (fun z => nq (by rw [← z]; exact m)))) (r.off fun m => nd'.2.2 q List.mem_cons_self q m rfl)
  | _, v :: vs, d :: ds, .cons (F := F1) (F' := F2) h r, nd, j + 1, es, hd => by
    have nd' := List.nodup_append.mp nd
    obtain ⟨q, ys, Fq, h1, h2, h3, h4, h5⟩ := OwnL.within r nd'.2.1 j es hd
    refine ⟨q, ys, Fq, h1, h2, List.mem_append_right _ h3, h4, fun ys' es' hn => ?_⟩
    exact .cons (h.off fun m => nd'.2.2 q m q h3 rfl) (h5 ys' es' hn)
end
section
variable {X : Cx} {cf : Cf} {W : WX} {c : Cls} {n n1 n2 : Bool}
theorem se_vP (i : Nat) {e : Expr} (p : PE X e (tVar i)) (hk : cf.kd i = .P) : SE X cf W .L false e (tVar i) (eV i) := ⟨p, sd_var fun R Hs env σ H F wf r v d h => by
  rw [hk] at h
  exact Own.rp (emp_ex _) h (r.mL (by rw [hk]; exact fun z => by cases z))⟩
def linL : List D → Bool
  | [] => true
  | d :: ds => if d.sc then linL ds else (match d with | .lst es => es.all D.sc | _ => false) && ds.all D.sc
def lin : D → Bool
  | .lst ds => ds.all D.sc
  | .tup ds => linL ds
  | d => d.sc
def sSetP (i : Nat) (f : M D) : M Fl := bnd f fun d => bnd (lift (if lin d then some d else none)) fun d => fun e => .ok .nx (e.set i (some d))
def inner : D → D → Option (Nat × List D)
  | .tup ds, .int z => (ixN ds.length z).bind fun j => match ds[j]? with | some (.lst es) => some (j, es) | _ => none
  | .lst ds, .int z => (ixN ds.length z).bind fun j => match ds[j]? with | some (.lst es) => some (j, es) | _ => none
  | _, _ => none
end
section
variable {e : PEnv} {fi f : M D} {i : Nat} {ds es : List D}
@[simp] theorem r_sSetP : sSetP i f e = rb (f e) fun d e => if lin d then .ok .nx (e.set i (some d)) else .stuck := by
  show rb (f e) _ = _
  congr 1; funext d e; cases h : lin d <;> simp [h]
end
end MV
namespace MV
open PySem PySem.Spec PyProof.Rows L2
def eCallQ (F : List D → FR) (i : Nat) (a : M (List D)) : M D := fun e => match e[i]? with
  | some (some d0) => bnd a (fun ds => frD (F (d0 :: ds))) e
  | _ => .stuck
def eIxQ (i : Nat) (f : M D) : M D := fun e => match lstAt i e with
  | none => .stuck
  | some ds => bnd f (fun k => match k with
    | .int z => lift ((atI ds z).bind fun d => if d.sc then some d else none)
    | _ => fail) e
def eLenQ (i : Nat) : M D := fun e => match lstAt i e with
  | some ds => .ok (.int ds.length) e
  | none => .stuck
section
variable {X : Cx} {cf : Cf} {W : WX} {c : Cls} {n n1 n2 : Bool}
theorem sd_callQ {F : List D → FR} {m i : Nat} {ta : TA} {fa : M (List D)} (hk : cf.kd i = .Q) (h : SdA cf W .B ta fa) (hm : ∀ ds env env', fa env = .ok ds env' → ds.length + 1 = m) : Sd cf W .V true (tCallS (spQ cf.K cf.cv m F) (WE W) (tCons (tVar i) ta)) (eCallQ F i fa) := by
  have hnw : cf.kd i ≠ .W := by rw [hk]; exact fun z => by cases z
  refine Sd.mk (fun R Hs env σ H F0 wf r d env' q Q k => ?_) (fun R Hs env σ H F0 wf r x env' q Q k => ?_)
  · unfold eCallQ at q
    split at q
    · rename_i d0 q0
      obtain ⟨v, hv, _⟩ := r.slot i d0 q0
      refine ⟨v, hv, ?_⟩
      obtain ⟨ds, env1, q1, q2⟩ := bnd_ok q
      refine h.ok r q1 fun vs Hs1 H1 s1 r1 p1 => ?_
      have e1 : env1[i]? = some (some d0) := by rw [s1.kp i hnw]; exact q0
      obtain ⟨v1, hv1, hs1⟩ := r1.slot i d0 e1
      have ev : v1 = v := by rw [hv1] at hv; cases hv; rfl
      subst ev
      rw [hk] at hs1
      refine ⟨by rw [List.length_cons, p1.length]; exact hm _ _ _ q1, v1, vs, d0, ds, rfl, Rp.mono r1.exs hs1, p1.mono (rm_sub _ _), ?_⟩
      cases qf : F (d0 :: ds) with
      | ok d' io =>
        rw [qf] at q2
        cases q2
        intro v H' x pv
        have pv' : Rp cf.K true (rs (grow Hs1 H1 H') H) v d := pv.mono (nw_rs s1.dom)
        exact k v (grow Hs1 H1 H') H' (s1.trans (Stp.grow r1.exs x)) (r1.grow x) pv' fun _ _ => pv'
      | ex x io => rw [qf] at q2; cases q2
      | stuck => rw [qf] at q2; cases q2
    · cases q
  · unfold eCallQ at q
    split at q
    · rename_i d0 q0
      obtain ⟨v, hv, _⟩ := r.slot i d0 q0
      refine ⟨v, hv, ?_⟩
      rcases bnd_ex q with q | ⟨ds, env1, q1, q2⟩
      · exact h.exn r q k
      · refine h.ok r q1 fun vs Hs1 H1 s1 r1 p1 => ?_
        have e1 : env1[i]? = some (some d0) := by rw [s1.kp i hnw]; exact q0
        obtain ⟨v1, hv1, hs1⟩ := r1.slot i d0 e1
        have ev : v1 = v := by rw [hv1] at hv; cases hv; rfl
        subst ev
        rw [hk] at hs1
        refine ⟨by rw [List.length_cons, p1.length]; exact hm _ _ _ q1, v1, vs, d0, ds, rfl, Rp.mono r1.exs hs1, p1.mono (rm_sub _ _), ?_⟩
        cases qf : F (d0 :: ds) with
        | ok d' io => rw [qf] at q2; cases q2
        | ex x' io =>
          rw [qf] at q2
          cases q2
          intro H' x
          exact k (grow Hs1 H1 H') H' (s1.trans (Stp.grow r1.exs x)) (r1.grow x)
        | stuck => rw [qf] at q2; cases q2
    · cases q
theorem se_callQ {F : List D → FR} {m k i : Nat} {f : Addr} {fd : FuncData} {ps : List Str} {x : Str} {e : Expr} {es : List Expr} {ta : TA} {fa : M (List D)} {p pos : Pos} (hK : cf.K = X.K) (tk : L2N.Takes X W) (G : FnOk X.prog X.w X.K X.mg X.base (L2N.CX X.prog X.w) k f fd ps (spQ X.K cf.cv m F)) (hr : Room k X.A) (hg : Gl X x) (hm : X.mg x = some (.ref f)) (hkp : PySem.W.keepIn X.K (.ref f) = true) (hb : Binds X.K fd ps []) (hk : cf.kd i = .Q) (pe : PE X e (tVar i)) (ha : SA X cf W .B es ta fa) (hl : ∀ ds env env', fa env = .ok ds env' → ds.length + 1 = m)
    (hdb : (x == ("__debug__" : Str)) = false := by decide) (he : starEach (e :: es) X.env = (false, eval e X.env) :: starEach es X.env := by rfl) (hpl : (backTo pos (starEach es X.env)).any (·.1) = false := by rfl) :
    SE X cf W .V true (.Call (.Name x p) (e :: es) [] pos) (tCallS (spQ cf.K cf.cv m F) (WE W) (tCons (tVar i) ta)) (eCallQ F i fa) := by
  refine ⟨?_, sd_callQ hk ha.s hl⟩
  rw [hK]
  exact pe_callS G hr hg hm hkp hb (fun σ => L2N.passAt tk σ) (pa_cons pe ha.p he) hdb he hpl
theorem se_ixQ {i : Nat} {o ix : Expr} {ti : TE} {f : M D} {pos : Pos} (hK : cf.K = X.K) (po : PE X o (tVar i)) (hk : cf.kd i = .Q) (h : SE X cf W c n ix ti f) (hs : PlainIx ix) : SE X cf W .V true (.Subscript o ix pos) (tOp (rIx cf.K) (tVar i) ti) (eIxQ i f) := by
  have hnw : cf.kd i ≠ .W := by rw [hk]; exact fun z => by cases z
  rw [hK]
  refine ⟨pe_ix ix_seq po h.p hs, Sd.mk (fun R Hs env σ H F wf r d env' q Q k => ?_) (fun R Hs env σ H F wf r x env' q Q k => ?_)⟩
  · unfold eIxQ at q
    cases q0 : lstAt i env with
    | none => simp only [q0] at q; cases q
    | some ds =>
      simp only [q0] at q
      obtain ⟨p0, xs0, a1, a2, a3⟩ := q_list r hk q0
      refine ⟨.ref p0, a1, ?_⟩
      obtain ⟨kd, env1, q1, q2⟩ := bnd_ok q
      refine h.s.ok r q1 fun v Hs1 H1 s1 r1 p1 _ => ?_
      have q3 : lstAt i env1 = some ds := by
        unfold lstAt at q0 ⊢; rw [s1.kp i hnw]; exact q0
      obtain ⟨p, xs, h1, h2, h3⟩ := q_list r1 hk q3
      have ep : p = p0 := by rw [h1] at a1; cases a1; rfl
      subst ep
      cases kd with
      | int z =>
        obtain ⟨qg, rfl⟩ := lift_ok q2
        cases qa : atI ds z with
        | none => rw [qa] at qg; cases qg
        | some d' =>
          rw [qa] at qg
          have qg : (if d'.sc then some d' else none) = some d := qg
          split at qg
          · rename_i hsc
            cases qg
            obtain ⟨w, hw, hr⟩ := atI_rp h3 qa
            exact .inl ⟨p, xs, z, w, rfl, p1.int_inv, by rw [← hK]; exact h2, hw, k w Hs1 H1 s1 r1 (hr.sc_any hsc _ _) fun _ _ => hr.sc_any hsc _ _⟩
          · cases qg
      | _ => cases q2
  · unfold eIxQ at q
    cases q0 : lstAt i env with
    | none => simp only [q0] at q; cases q
    | some ds0 =>
      simp only [q0] at q
      obtain ⟨p0, xs0, a1, a2, a3⟩ := q_list r hk q0
      refine ⟨.ref p0, a1, ?_⟩
      rcases bnd_ex q with q | ⟨kd, env1, q1, q2⟩
      · exact h.s.exn r q k
      · cases kd with
        | int z => exact (lift_ex q2).elim
        | _ => cases q2
theorem se_lenQ {i : Nat} {o : Expr} {p pos : Pos} (hK : cf.K = X.K) (hm : X.mg "len" = none) (po : PE X o (tVar i)) (hk : cf.kd i = .Q) (hg : Gl X "len" := by rfl) (he : starEach [o] X.env = (false, eval o X.env) :: starEach [] X.env := by rfl) (hpl : (backTo pos (starEach [] X.env)).any (·.1) = false := by rfl) :
    SE X cf W .V true (.Call (.Name "len" p) [o] [] pos) (tCB (fun xs H Q => ∃ x n, xs = [x] ∧ LenV cf.K x H n ∧ Q (.int n) H) (tCons (tVar i) tNil)) (eLenQ i) := by
  rw [hK]
  refine ⟨pe_callB call_len hg hm PySem.boot_len (pa_cons po pa_nil he) (by decide) (by decide) he hpl, Sd.mk (fun R Hs env σ H F wf r d env' q Q k => ?_) (fun R Hs env σ H F wf r x env' q Q k => ?_)⟩
  · unfold eLenQ at q
    split at q
    · rename_i ds q0
      cases q
      obtain ⟨p0, xs0, a1, a2, a3⟩ := q_list r hk q0
      refine ⟨.ref p0, a1, .ref p0, xs0.length, rfl, .inl ⟨xs0, by rw [← hK]; exact a2, rfl⟩, ?_⟩
      rw [a3.length]
      exact k _ Hs H Stp.refl r (.int _) fun _ _ => .int _
    · cases q
  · unfold eLenQ at q
    split at q <;> cases q
end
section
variable {P : Program} {w : World} {K : PySem.W.Frag} {mg : Str → Option Value} {base : Heap}
theorem fn_Q {x qual : Str} {st : Stmt} {f : Addr} {fd : FuncData} (N ps : List Str) (mN mP : Nat) {k : Nat} (cf : Cf) (g : M Fl) (hN : N.length = mN) (hP : ps.length = mP) (F : Fun K x qual st f fd) (S : FnScope N ps (defScope st)) (hK : cf.K = K) (h0 : cf.kd 0 = .Q) (hk : ∀ i, 0 < i → i < ps.length → cf.kd i = .S)
    (hbody : ∀ (cdv : Value) (A : Around) (outer : List Env) (s : Shared) (H : Hp) (E : XK), Room k (A.deeper (envOfC qual (defScope st) s.heap.objs.size f cdv)) → L2N.Takes (cxOf (L2N.CX P w) P w K mg base N qual (defScope st) f cdv A outer s H E) (fun cls d _ H => E cls d H) →
      PassesOwn (model P w) (A.deeper (envOfC qual (defScope st) s.heap.objs.size f cdv)) (envOfC qual (defScope st) s.heap.objs.size f cdv) (cxOf (L2N.CX P w) P w K mg base N qual (defScope st) f cdv A outer s H E).xe →
      SSs (cxOf (L2N.CX P w) P w K mg base N qual (defScope st) f cdv A outer s H E) cf (fun cls d _ H => E cls d H) (defBody st) g) :
    FnOk P w K mg base (L2N.CX P w) (k + 1) f fd ps (spQ K cf.cv mP (runF mN g)) := by
  subst hN hP
  refine okN F S (fun vs H Q E h => h.1) (fun cdv A outer s H vs Q E hr h => ?_)
  obtain ⟨hl, v0, vs', d0, ds, rfl, hd0, hd, h⟩ := h
  obtain ⟨t, p, sd⟩ := hbody cdv A outer s H E hr (L2N.takes_of rfl rfl rfl rfl) (passes_of rfl)
  refine ⟨t, p, ?_⟩
  have r : Rel cf ⟨H, none⟩ H (envOf N.length (d0 :: ds)) (L2.start N (v0 :: vs')) H (fun _ => []) [] :=
    { len := env_len (by rw [List.length_cons, List.length_cons, hd.length])
      exs := Ex.refl _
      ex0 := fun a o h _ => h
      dom0 := fun a h => h
      slot := fun i d q => by
        have q := envOf_get q
        cases i with
        | zero =>
          have q : d0 = d := by simpa using q
          subst q
          refine ⟨v0, start_get rfl, ?_⟩
          rw [h0, hK]
          exact hd0
        | succ i =>
          have q : ds[i]? = some d := by simpa using q
          obtain ⟨v, h1, h2⟩ := hd.get q
          refine ⟨v, start_get (by simpa using h1), ?_⟩
          rw [hk (i + 1) (by omega) (by rw [← hl, List.length_cons, hd.length]; have := (List.getElem?_eq_some_iff.mp q).1; omega), hK]
          exact h2
      nod := fun _ => List.nodup_nil
      dis := fun _ _ _ _ m => by cases m
      fdom := fun _ _ m => by cases m
      uns := fun _ _ m => by cases m
      new := fun _ _ m => by cases m
      volw := fun _ _ _ m => by cases m
      volb := fun _ _ _ m => by cases m
      wdom := fun _ m => by cases m
      ior := fun p h => by cases h }
  refine sd _ _ _ _ _ _ _ r _ ?_
  unfold runF at h
  have exH : ∀ {Hs' H' : Hp} {env' : PEnv} {σ' : L2.St} {F' : Nat → List Addr} {wf' : List Addr}, Rel cf ⟨H, none⟩ Hs' env' σ' H' F' wf' → Ex H H' := fun r' a o ha => r'.exs a o (r'.ex0 a o ha (fun z => by cases z))
  cases q : g (envOf N.length (d0 :: ds)) with
  | stuck => rw [q] at h; exact h.elim
  | ex c e =>
    rw [q] at h
    exact fun Hs' σ' H' F' wf' _ r' => h H' (exH r')
  | ok fl e =>
    rw [q] at h
    cases fl with
    | nx => exact fun Hs' σ' H' F' wf' _ r' => h .non H' (exH r') .non
    | rt d => exact fun v Hs' σ' H' F' wf' _ r' pv => h v H' (exH r') (by
        rw [← hK]
        exact pv.mono fun a o ha => by
          have ha : rs (rm H' wf') H a = some o := ha
          cases z : H a with
          | none => rw [rs_none z] at ha; rw [nw_none z]; exact rm_sub _ _ a o ha
          | some u => rw [rs_some z] at ha; cases ha)
    | bk => exact h.elim
    | ct => exact h.elim
end
section
variable {e : PEnv} {f : M D} {i : Nat} {r : M (List D)}
def someO (o : Option (Option D)) : Option D := match o with
  | some (some d) => some d
  | _ => none
@[simp] theorem someO_some {d : D} : someO (some (some d)) = some d := (rfl)
@[simp] theorem r_eCallQ {F : List D → FR} : eCallQ F i r e = ro (someO (e[i]?)) fun d0 => rb (r e) fun ds e => frR (F (d0 :: ds)) (fun d _ => .ok d e) fun x _ => .ex x e := by
  unfold eCallQ someO
  cases e[i]? with
  | none => rfl
  | some o => cases o <;> rfl
@[simp] theorem r_eIxQ : eIxQ i f e = ro (lstO (e[i]?)) fun ds => rb (f e) fun k e => ro (asInt k) fun z => ro (L2.atI ds z) fun d => if d.sc then .ok d e else .stuck := by
  unfold eIxQ
  show _ = ro (lstAt i e) _
  cases lstAt i e with
  | none => rfl
  | some ds =>
    show rb (f e) _ = _
    simp only [ro_some]
    congr 1; funext k e
    cases k <;> first | rfl | (simp only [asInt_int, ro_some]; cases h : L2.atI ds _ with | none => rfl | some d => cases h2 : d.sc <;> simp [h2])
@[simp] theorem r_eLenQ : eLenQ i e = ro (lstO (e[i]?)) fun ds => .ok (.int ds.length) e := by
  unfold eLenQ
  show _ = ro (lstAt i e) _
  cases lstAt i e <;> rfl
end
end MV
namespace MV
open PySem PySem.Spec PyProof.Rows L2
section
variable {X : Cx} {pp : List (Addr × Obj)} {σ : L2.St} {H : Hp} {s : Shared}
end
section
variable {X : Cx} {x n : Str} {c : Value} {i : Nat} {body suite : List Stmt} {b₀ : Stmt} {np pos pos' : Pos} {tb : WX → TS} {ts : Addr → Value → TS} {Wo : WX}
end
abbrev veMro : List Value := [.type "ValueError", .type "Exception", .type "BaseException", .type "object"]
structure XCls (K : PySem.W.Frag) (mg : Str → Option Value) (c : Str) (C : Addr) : Prop where
  n : PySem.W.nsIn K mainGlobals c = some (some (.ref C))
  g : mg c = some (.ref C)
  x : PySem.W.excIn K C veMro "ValueError.__new__" = true
  k : PySem.W.keepIn K (.ref C) = true
  b : PySem.W.subIn K (.ref C) (.type "BaseException") = some true
  t : PySem.W.typeIn K (.ref C) = some (.type "type")
  d : PySem.W.hasDictIn K C = true
  s : PySem.W.subIn K (.ref C) (.ref C) = some true
theorem XCls.cv {K : PySem.W.Frag} {mg : Str → Option Value} {c : Str} {C : Addr} (h : XCls K mg c C) : cvK K c = .ref C := by unfold cvK; rw [h.n]
def sRaise (c : Str) : M Fl := fun e => .ex c e
section
variable {X : Cx} {cf : Cf} {W : WX}
theorem ss_raise {x m : Str} {C : Addr} {j : Nat} {p p2 pos pos' : Pos} (hK : cf.K = X.K) (hcv : cf.cv = cvK cf.K) (hc : X.calm = true) (tk : L2N.Takes X W) (T : XCls X.K X.mg x C) (hg : Gl X x := by rfl) (hdb : (x == ("__debug__" : Str)) = false := by decide) :
    SS X cf W (.Raise (some (.Call (.Name x p) [.Constant (.str m) j p2] [] pos')) none pos) (sRaise x) :=
  ⟨_, L2N.ps_raise hc tk (L2N.pmk_own PySem.F.excBase_ValueError T.x T.g T.k (raises_own T.b T.t) hg hdb), fun R Hs env σ H F wf r D hp => by
    have := hp Hs σ H F wf (Ex.refl _) r
    rw [hcv, hK, T.cv] at this
    exact this⟩
def sTryK (cs : List Str) (i j : Nat) (b : M Fl) : M Fl := fun e => match b e with
  | .ex c e' => if c ∈ cs ∧ j < e'.length then .ok .nx ((e'.set i (some (.exc c))).set j none) else .stuck
  | r => r
end
end MV
namespace MV
open PySem PySem.Spec PyProof.Rows L2
def excSub (c T : Str) : Bool := c == T || T == (Str.ofString "CoverError") || T == (Str.ofString "ValueError")
def gIsX (cs : List Str) (T : Str) : D → Option D
  | .exc c => if c ∈ cs then some (.bl (excSub c T)) else none
  | _ => none
def gIsXT (cs Ts : List Str) : D → Option D
  | .exc c => if c ∈ cs then some (.bl (Ts.any (excSub c))) else none
  | _ => none
section
variable {X : Cx} {cf : Cf} {W : WX} {c ca : Cls} {n n1 : Bool} {a : Expr} {ta : TE} {fa : M D} {pos : Pos}
end
section
variable {e : PEnv} {b : M Fl} {f : M D} {i j : Nat} {cs Ts : List Str} {c T : Str}
@[simp] theorem r_sRaise : sRaise c e = .ex c e := (rfl)
def tryR (cs : List Str) (i j : Nat) (r : Res Fl) : Res Fl := match r with
  | .ex c e' => if c ∈ cs ∧ j < e'.length then .ok .nx ((e'.set i (some (.exc c))).set j none) else .stuck
  | r => r
@[simp] theorem tryR_ok {f : Fl} : tryR cs i j (.ok f e) = .ok f e := (rfl)
@[simp] theorem tryR_ex : tryR cs i j (.ex c e) = if c ∈ cs ∧ j < e.length then .ok .nx ((e.set i (some (.exc c))).set j none) else .stuck := (rfl)
@[simp] theorem r_sTryK : sTryK cs i j b e = tryR cs i j (b e) := (rfl)
@[simp] theorem gIsX_x : gIsX cs T (.exc c) = if c ∈ cs then some (.bl (excSub c T)) else none := (rfl)
@[simp] theorem gIsXT_x : gIsXT cs Ts (.exc c) = if c ∈ cs then some (.bl (Ts.any (excSub c))) else none := (rfl)
end
end MV
namespace MV
open PySem PySem.Spec PyProof.Rows L2
def gCount : D → List D → Option D
  | .lst ds, [y] => if y.sc && ds.all D.sc then some (.int (ds.countP fun z => eqD z y : Nat)) else none
  | _, _ => none
def gAny : List D → Option D
  | [.lst ds] => if ds.all fun x => (asB x).isSome then some (.bl (ds.any fun x => asB x == some true)) else none
  | _ => none
def gIsiT (Ts : List String) (d : D) : Option D := match d.ty with
  | some a => some (.bl (Ts.any (isiB a)))
  | none => none
section
variable {X : Cx} {cf : Cf} {W : WX} {c ca : Cls} {n n1 n2 : Bool}
end
section
variable {e : PEnv} {f : M D} {r : M (List D)} {tg : D → M Unit} {i j : Nat}
@[simp] theorem r_sUnp : sUnp f tg e = rb (f e) fun d e => rb (tg d e) fun _ e => .ok .nx e := (rfl)
end
section
variable {ds : List D} {y : D} {Ts : List String} {i : Int} {x : Str} {b : Bool}
@[simp] theorem gCount_l : gCount (.lst ds) [y] = if y.sc && ds.all D.sc then some (.int (ds.countP fun z => eqD z y : Nat)) else none := (rfl)
@[simp] theorem gAny_l : gAny [.lst ds] = if ds.all fun x => (asB x).isSome then some (.bl (ds.any fun x => asB x == some true)) else none := (rfl)
@[simp] theorem gIsiT_i : gIsiT Ts (.int i) = some (.bl (Ts.any (isiB "int"))) := (rfl)
@[simp] theorem gIsiT_s : gIsiT Ts (.str x) = some (.bl (Ts.any (isiB "str"))) := (rfl)
@[simp] theorem gIsiT_b : gIsiT Ts (.bl b) = some (.bl (Ts.any (isiB "bool"))) := (rfl)
@[simp] theorem gIsiT_l : gIsiT Ts (.lst ds) = some (.bl (Ts.any (isiB "list"))) := (rfl)
@[simp] theorem gIsiT_t : gIsiT Ts (.tup ds) = some (.bl (Ts.any (isiB "tuple"))) := (rfl)
@[simp] theorem gIsiT_n : gIsiT Ts .non = some (.bl (Ts.any (isiB "NoneType"))) := (rfl)
end
end MV
namespace MV
open PySem PySem.Spec PyProof.Rows L2
def ePopW (i : Nat) (f : M D) : M D := fun e => match lstAt i e with
  | none => .stuck
  | some _ => bnd f (fun k => fun e => match lstAt i e, k with
    | some ds, .int z => match ixN ds.length z with
      | some j => match ds[j]? with
        | some d => if ds.length ≤ LIM then .ok d (e.set i (some (.lst (ds.eraseIdx j)))) else .stuck
        | none => .stuck
      | none => .stuck
    | _, _ => .stuck) e
def eLenW (i : Nat) : M D := fun e => match lstAt i e with
  | some ds => .ok (.int ds.length) e
  | none => .stuck
def sRetW (i : Nat) : M Fl := fun e => match lstAt i e with
  | some ds => .ok (.rt (.lst ds)) (e.set i none)
  | none => .stuck
theorem RpL.eraseIdx {K : PySem.W.Frag} {x : Bool} {G : Hp} : ∀ {xs : List V} {ds : List D} (j : Nat), RpL K x G xs ds → RpL K x G (xs.eraseIdx j) (ds.eraseIdx j)
  | _, _, j, .nil => by simp; exact .nil
  | _, _, 0, .cons h r => r
  | _, _, j + 1, .cons h r => .cons h (RpL.eraseIdx j r)
section
variable {X : Cx} {cf : Cf} {W : WX} {c : Cls} {n n1 n2 : Bool}
end
section
variable {e : PEnv} {f : M D} {i : Nat} {z : Str}
@[simp] theorem r_ePopW : ePopW i f e = ro (lstO (e[i]?)) fun _ => rb (f e) fun k e => ro (lstO (e[i]?)) fun ds => ro (asInt k) fun z => ro (L2.ixN ds.length z) fun j => ro (ds[j]?) fun d => if ds.length ≤ LIM then .ok d (e.set i (some (.lst (ds.eraseIdx j)))) else .stuck := by
  unfold ePopW
  show _ = ro (lstAt i e) _
  cases lstAt i e with
  | none => rfl
  | some ds =>
    show rb (f e) _ = _
    simp only [ro_some]
    congr 1; funext k e
    show _ = ro (lstAt i e) _
    cases lstAt i e with
    | none => rfl
    | some ds =>
      simp only [ro_some]
      cases k <;> first | rfl | (simp only [asInt_int, ro_some]; cases L2.ixN ds.length _ with | none => rfl | some j => (simp only [ro_some]; cases ds[j]? <;> rfl))
@[simp] theorem r_eLenW : eLenW i e = ro (lstO (e[i]?)) fun ds => .ok (.int ds.length) e := by
  unfold eLenW
  show _ = ro (lstAt i e) _
  cases lstAt i e <;> rfl
@[simp] theorem r_sRetW : sRetW i e = ro (lstO (e[i]?)) fun ds => .ok (.rt (.lst ds)) (e.set i none) := by
  unfold sRetW
  show _ = ro (lstAt i e) _
  cases lstAt i e <;> rfl
@[simp] theorem gList1_s : gList1 [.str z] = if z.length ≤ LIM then some (.lst (chD z)) else none := (rfl)
end
end MV
namespace MV
open PySem PySem.Spec PyProof.Rows L2
def SdOw (cf : Cf) (W : WX) (te : TE) (f : M D) : Prop :=
  ∀ (R : Rs) (Hs : Hp) (env : PEnv) (σ : L2.St) (H : Hp) (F : Nat → List Addr) (wf : List Addr), Rel cf R Hs env σ H F wf → ∀ Q : VK,
    match f env with
    | .ok d env' => (∀ v Hs' H' G, Stp cf wf env Hs H env' Hs' H' → Rel cf R Hs' env' σ H' F wf → Own cf.K emp H' G v d → G.Nodup → (∀ a ∈ G, H a = none ∧ H' a ≠ none) → Q v H') → te σ H Q
    | .ex x env' => (∀ Hs' H', Stp cf wf env Hs H env' Hs' H' → Rel cf R Hs' env' σ H' F wf → W (cf.cv x) none σ H') → te σ H Q
    | .stuck => True
def SdAw (cf : Cf) (W : WX) (ta : TA) (f : M (List D)) : Prop :=
  ∀ (R : Rs) (Hs : Hp) (env : PEnv) (σ : L2.St) (H : Hp) (F : Nat → List Addr) (wf : List Addr), Rel cf R Hs env σ H F wf → ∀ Q : List V → Hp → Prop,
    match f env with
    | .ok ds env' => (∀ vs Hs' H' G, Stp cf wf env Hs H env' Hs' H' → Rel cf R Hs' env' σ H' F wf → OwnL cf.K emp H' G vs ds → G.Nodup → (∀ a ∈ G, H a = none ∧ H' a ≠ none) → Q vs H') → ta σ H Q
    | .ex x env' => (∀ Hs' H', Stp cf wf env Hs H env' Hs' H' → Rel cf R Hs' env' σ H' F wf → W (cf.cv x) none σ H') → ta σ H Q
    | .stuck => True
def SGO (X : Cx) (cf : Cf) (W : WX) (i : Nat) (st : Stmt) (f : M D) : Prop := ∃ te, PS X st (tAsg te (gName i)) ∧ SdOw cf W te f
structure SEO (X : Cx) (cf : Cf) (W : WX) (e : Expr) (t : TE) (f : M D) : Prop where
  p : PE X e t
  s : SdOw cf W t f
structure SAO (X : Cx) (cf : Cf) (W : WX) (es : List Expr) (t : TA) (f : M (List D)) : Prop where
  p : PA X es t
  s : SdAw cf W t f
section
variable {X : Cx} {cf : Cf} {W : WX} {c : Cls} {n n1 n2 : Bool} {i : Nat}
theorem not_wf {R : Rs} {Hs H : Hp} {env : PEnv} {σ : L2.St} {F : Nat → List Addr} {wf : List Addr} (r : Rel cf R Hs env σ H F wf) {a : Addr} (h : H a = none) : a ∉ wf := fun m => (r.wdom a m).1 h
theorem flat_own {K : PySem.W.Frag} {Hs1 H H1 : Hp} {v : V} {d : D} (ex : Ex Hs1 H1) (h : Rp K true (rs Hs1 H) v d) (hf : d.flat = true) : ∃ G, Own K emp H1 G v d ∧ G.Nodup ∧ ∀ a ∈ G, H a = none ∧ H1 a ≠ none := by
  have at_ : ∀ {a : Addr} {o : HO}, rs Hs1 H a = some o → H a = none ∧ H1 a = some o := fun {a o} h => by
    cases z : H a with
    | none => rw [rs_none z] at h; exact ⟨rfl, ex _ _ h⟩
    | some u => rw [rs_some z] at h; cases h
  by_cases hs : d.sc = true
  · exact ⟨[], .leaf (h.sc_any hs _ _), List.nodup_nil, fun a m => by cases m⟩
  · cases d with
    | lst ds =>
      obtain ⟨a, xs, rfl, h1, h2⟩ := h.lst_inv
      obtain ⟨b1, b2⟩ := at_ (show rs Hs1 H a = some (.lst xs) from h1)
      exact ⟨[a], .lst b2 (ownL_of (h2.sc_any hf _ _)), by simp, fun b m => by rw [List.mem_singleton.mp m]; exact ⟨b1, by rw [b2]; exact fun z => by cases z⟩⟩
    | tup ds =>
      obtain ⟨a, xs, rfl, h1, h2⟩ := h.tup_inv
      obtain ⟨b1, b2⟩ := at_ (show rs Hs1 H a = some (.tup xs) from h1)
      exact ⟨[a], .tup b2 (ownL_of (h2.sc_any hf _ _)), by simp, fun b m => by rw [List.mem_singleton.mp m]; exact ⟨b1, by rw [b2]; exact fun z => by cases z⟩⟩
    | _ => exact absurd hf hs
theorem sdao_nil : SdAw cf W tNil aNil := fun R Hs env σ H F wf r Q k => k [] Hs H [] Stp.refl r .nil List.nodup_nil fun a m => by cases m
theorem sdao_cons {ta : TE} {fa : M D} {tr : TA} {fr : M (List D)} (ha : Sd cf W .V true ta fa) (hr : SdAw cf W tr fr) : SdAw cf W (tCons ta tr) (aCons (eF fa) fr) := by
  intro R Hs env σ H F wf r Q
  cases q : aCons (eF fa) fr env with
  | stuck => trivial
  | ex x env' =>
    rcases bnd_ex q with q | ⟨d1, env1, q1, q⟩
    · rcases bnd_ex q with q | ⟨d1, env1, q1, q⟩
      · exact fun k => ha.exn r q k
      · exact (lift_ex q).elim
    · obtain ⟨d0, env0, q0, qf⟩ := bnd_ok q1
      obtain ⟨qf, rfl⟩ := lift_ok qf
      split at qf
      · cases qf
        rcases bnd_ex q with q | ⟨d2, env2, q2, q⟩
        · intro k
          refine ha.ok r q0 fun v Hs1 H1 s1 r1 p1 _ => ?_
          have h := hr R Hs1 _ σ H1 F wf r1 fun xs H2 => Q (v :: xs) H2
          rw [q] at h
          exact h fun Hs2 H2 s2 r2 => k Hs2 H2 (s1.trans s2) r2
        · cases q
      · cases qf
  | ok ds env' =>
    obtain ⟨d1, env1, q1, q⟩ := bnd_ok q
    obtain ⟨ds2, env2, q2, q⟩ := bnd_ok q
    cases q
    obtain ⟨d0, env0, q0, qf⟩ := bnd_ok q1
    obtain ⟨qf, rfl⟩ := lift_ok qf
    split at qf
    · rename_i hfl
      cases qf
      intro k
      refine ha.ok r q0 fun v Hs1 H1 s1 r1 p1 _ => ?_
      obtain ⟨G1, o1, nd1, nw1⟩ := flat_own r1.exs (show Rp cf.K true (rs Hs1 H) v d1 from p1) hfl
      have h := hr R Hs1 _ σ H1 F wf r1 fun xs H2 => Q (v :: xs) H2
      rw [q2] at h
      refine h fun vs Hs2 H2 G2 s2 r2 o2 nd2 nw2 => k (v :: vs) Hs2 H2 (G1 ++ G2) (s1.trans s2) r2 (.cons (o1.keep (Ex.refl _) fun a m o ha => s2.keep a o (not_wf r (nw1 a m).1) ha) o2) ?_ ?_
      · exact List.nodup_append.mpr ⟨nd1, nd2, fun a m b m2 e => by subst e; exact (nw1 a m).2 (nw2 a m2).1⟩
      · intro a m
        rcases List.mem_append.mp m with m | m
        · exact ⟨(nw1 a m).1, s2.dom a (nw1 a m).2⟩
        · refine ⟨?_, (nw2 a m).2⟩
          cases z : H a with
          | none => rfl
          | some o => exact absurd (nw2 a m).1 (s1.dom a (by rw [z]; exact fun y => by cases y))
    · cases qf
theorem sao_nil : SAO X cf W [] tNil aNil := ⟨pa_nil, sdao_nil⟩
theorem sao_cons {e : Expr} {es : List Expr} {ta : TE} {fa : M D} {tr : TA} {fr : M (List D)} (ha : SE X cf W .V true e ta fa) (hr : SAO X cf W es tr fr) (hs : starEach (e :: es) X.env = (false, eval e X.env) :: starEach es X.env := by rfl) : SAO X cf W (e :: es) (tCons ta tr) (aCons (eF fa) fr) := ⟨pa_cons ha.p hr.p hs, sdao_cons ha.s hr.s⟩
def gLstO (ds : List D) : Option D := if ds.length ≤ LIM then some (.lst ds) else none
def gTupO (ds : List D) : Option D := if ds.length ≤ LIM then some (.tup ds) else none
theorem fin_own {R : Rs} {Hs Hs2 : Hp} {env env2 : PEnv} {σ : L2.St} {H H2 : Hp} {F : Nat → List Addr} {wf : List Addr} {p : Addr} {o : HO} (s : Stp cf wf env Hs H env2 Hs2 H2) (r2 : Rel cf R Hs2 env2 σ H2 F wf) (hp : H2 p = none) : Stp cf wf env Hs H env2 (grow Hs2 H2 (upd H2 p o)) (upd H2 p o) ∧ Rel cf R (grow Hs2 H2 (upd H2 p o)) env2 σ (upd H2 p o) F wf ∧ H p = none := by
  refine ⟨s.trans (Stp.grow r2.exs (Ex.new hp)), r2.grow (Ex.new hp), ?_⟩
  cases z : H p with
  | none => rfl
  | some u => exact absurd hp (s.dom p (by rw [z]; exact fun y => by cases y))
theorem seo_lst {es : List Expr} {ta : TA} {fa : M (List D)} {pos : Pos} (h : SAO X cf W es ta fa) : SEO X cf W (.List es pos) (tLst ta) (eN gLstO fa) := by
  obtain ⟨p, s⟩ := h
  refine ⟨pe_lst p, fun R Hs env σ H F wf r Q => ?_⟩
  have h := s R Hs env σ H F wf r
  cases q : eN gLstO fa env with
  | stuck => trivial
  | ex x env' =>
    rcases bnd_ex q with q | ⟨d1, env1, q1, q⟩
    · intro k
      have h := h fun xs H1 => xs.length ≤ sizeLine ∧ ∀ p, H1 p = none → Q (.ref p) (upd H1 p (.lst xs))
      rw [q] at h
      exact h k
    · exact (lift_ex q).elim
  | ok d env' =>
    obtain ⟨ds, env1, q1, q⟩ := bnd_ok q
    obtain ⟨qg, rfl⟩ := lift_ok q
    unfold gLstO at qg
    split at qg
    · rename_i hl
      cases qg
      intro k
      have h := h fun xs H1 => xs.length ≤ sizeLine ∧ ∀ p, H1 p = none → Q (.ref p) (upd H1 p (.lst xs))
      rw [q1] at h
      refine h fun vs Hs2 H2 G s2 r2 o2 nd nw => ⟨by rw [o2.length]; exact lim_sz hl, fun p hp => ?_⟩
      obtain ⟨t1, t2, t3⟩ := fin_own (o := .lst vs) s2 r2 hp
      have np : p ∉ G := fun m => (nw p m).2 hp
      exact k (.ref p) _ _ (p :: G) t1 t2 (.lst upd_same (o2.off np)) (List.nodup_cons.mpr ⟨np, nd⟩) fun a m => by
        rcases List.mem_cons.mp m with rfl | m
        · exact ⟨t3, by rw [upd_same]; exact fun z => by cases z⟩
        · exact ⟨(nw a m).1, by rw [upd_ne (fun e => np (by rw [← e]; exact m))]; exact (nw a m).2⟩
    · cases qg
theorem sgo_of {x : Str} {e : Expr} {te : TE} {f : M D} {pos' pos : Pos} (h : SEO X cf W e te f) (hN : X.N.Nodup) (hi : X.N[i]? = some x) (hx : Loc X.env.scope x) (hs : swapsWith e (some (.Name x pos')) pos.line X.env = pure false := by rfl) (hf : X.fn x = true ∨ X.env.scope.names.lookup x = some .local := by first | exact .inl rfl | exact .inr rfl | assumption) :
    SGO X cf W i (.Assign [.Name x pos'] e pos) f := by
  obtain ⟨p, s⟩ := h
  exact ⟨te, ps_set hN hi hx p hs hf, s⟩
theorem ss_setO {st : Stmt} {f : M D} (h : SGO X cf W i st f) (hk : cf.kd i = .P) : SS X cf W st (sSet i f) := by
  obtain ⟨te, p, s⟩ := h
  refine ⟨_, p, fun R Hs env σ H F wf r D hp => ?_⟩
  have h := s R Hs env σ H F wf r fun v H1 => gName i v σ H1 D.nx
  unfold sSet bnd at hp
  cases q : f env with
  | stuck => rw [q] at hp; exact hp.elim
  | ex x env1 => rw [q] at h hp; exact h fun Hs1 H1 s1 r1 => hp Hs1 σ H1 F wf s1.ex r1
  | ok d env1 =>
    rw [q] at h hp
    refine h fun v Hs1 H1 G s1 r1 o nd nw => ?_
    obtain ⟨r2, e2⟩ := r.own s1 r1 (i := i) (v := v) (d := d) (Fn := G) (wf' := wf) (fun hh e => by
          cases z : R.io with
          | none => exact hh z
          | some q =>
            obtain ⟨_, _, h3, _⟩ := r.ior q z
            rw [← e, hk] at h3; cases h3) nd nw
      (fun b => ⟨.inl, fun z => z.elim id fun z => by rw [hk] at z; cases z.1⟩) (by rw [hk]; exact o)
    exact hp _ _ H1 _ wf e2 r2
end
section
variable {ds : List D}
@[simp] theorem gLstO_ : gLstO ds = if ds.length ≤ LIM then some (.lst ds) else none := (rfl)
@[simp] theorem gTupO_ : gTupO ds = if ds.length ≤ LIM then some (.tup ds) else none := (rfl)
end
end MV
namespace MV
open PySem PySem.Spec PyProof.Rows L2
section
variable {X : Cx} {cf : Cf} {W : WX}
end
end MV
namespace MV
open PySem PySem.Spec PyProof.Rows L2
section
variable {P : Program} {w : World} {A : Around} {E : Value → Shared → Prop} {s : Shared}
set_option maxHeartbeats 8000000 in
theorem call_set_lstI {l : Addr} {items : Array Value} (ns : List Int) {Q : Value → Shared → Prop} (hh : A.handled = none) (hl : s.heap.IsList l items) (hit : IntsAre items.toList ns) (hb : ns.length + 1 < scanBound)
    (h : ∀ (h' : Heap) (tk c : Nat), SetR w h' s.heap.objs.size (fun j => decide (j ∈ ns)) c → c ≤ ns.length → (∀ b o, s.heap.get? b = some o → h'.get? b = some o) → Q (.ref s.heap.objs.size) { s with heap := h', toks := tk }) :
    wpAny (model P w) A (call (.type "set") [.ref l]) Q E s := by
  have hisz : items.size = ns.length := by
    have q := IntsAre.length hit
    rw [Array.length_toList] at q
    exact q
  obtain ⟨c, tl, hmro⟩ := F.called_set.mro
  have hmade := F.called_set.made
  have hsub := F.called_set.sub
  refine wpAny_call (codeAny_of_tree ?_)
  show wpAny _ _ (callAny (.type "set") _) _ _ _
  refine wpAny_pure ⟨Code.quiet_builtin _ (by decide +kernel), codeAny_builtin F.entry_type_call ?_⟩
  rw [Around.under_plain (weight_type_call_type "set" [.ref l] []) rfl]
  have h1 := F.called_set.notType
  have h2 := F.called_set.canCreate
  have hct := F.typeCall_set_1 (.ref l)
  repeat (any_goals (first | assumption | wp_step))
  refine codeAny_mono (code_set_led1 (.ref l) (E := E) (Q₁ := fun obj s₁ => obj = .ref s.heap.objs.size ∧ s₁ = { s with heap := s.heap.push { cls := .type "set", dict := none, data := .set #[] 0 (.fresh 0 0 (!w.params.followText "set-order")) } }) ⟨rfl, rfl⟩) fun r s₁ hr => ?_
  cases r with
  | error e => exact hr
  | ok fl =>
    cases fl with
    | ret obj =>
      obtain ⟨rfl, rfl⟩ := hr
      have hS : (s.heap.push { cls := .type "set", dict := none, data := .set #[] 0 (.fresh 0 0 (!w.params.followText "set-order")) }).get? s.heap.objs.size = some { cls := .type "set", dict := none, data := .set #[] 0 (.fresh 0 0 (!w.params.followText "set-order")) } := Heap.get?_push_size _ rfl
      have hT : Shared.TypeIs { s with heap := s.heap.push { cls := .type "set", dict := none, data := .set #[] 0 (.fresh 0 0 (!w.params.followText "set-order")) } } (.ref s.heap.objs.size) "set" := ⟨_, hS, rfl⟩
      have hli := F.called_set.init.lookup
      have hbi := F.called_set.init.bind (.ref s.heap.objs.size)
      repeat (any_goals (first | assumption | wp_step))
      refine codeAny_mono (codeAny_call_builtin (R := wants (fun r s₂ => r = .none ∧ ∃ h' tk c, s₂ = { s with heap := h', toks := tk } ∧ SetR w h' s.heap.objs.size (fun j => decide (j ∈ ns)) c ∧ c ≤ ns.length ∧
          (∀ b o, s.heap.get? b = some o → h'.get? b = some o)) E) F.called_set.init.plain F.entry_set_init (check_set_init_1 hT ?_)) fun r₂ s₂ hr₂ => ?_
      · obtain ⟨ol, hol, hcl, nl, hdl⟩ := hl
        obtain ⟨ocls, odict, odata, oslots⟩ := ol
        simp only at hcl hdl
        subst hcl; subst hdl
        have hol' : (s.heap.push { cls := .type "set", dict := none, data := .set #[] 0 (.fresh 0 0 (!w.params.followText "set-order")) }).get? l = some { cls := .type "list", dict := odict, data := .seq items nl, slots := oslots } := Heap.get?_push_of_some _ hol
        have hsls := F.sub_list_set
        have hslf := F.sub_list_frozenset
        have hne : (Value.type "list" == Value.type "dict") = false := by decide
        have hl1 : (s.heap.push { cls := .type "set", dict := none, data := .set #[] 0 (.fresh 0 0 (!w.params.followText "set-order")) }).IsList l items := ⟨_, hol', rfl, nl, rfl⟩
        unfold Builtin.«set.__init__» noKeywords Builtin.Frozenset.updateFrom
        generalize hPI : pyIter = PI
        wp_walk
        subst hPI
        refine wpAny_pyIter_list hl1 ?_
        refine wpAny_bind (wpAny_runValue ?_)
        have hlS : l < s.heap.objs.size := Heap.lt_size hol
        have hh3 : A.in1.in1.in1.handled = none := by simp [hh]
        have hneI : l ≠ (s.heap.push { cls := .type "set", dict := none, data := .set #[] 0 (.fresh 0 0 (!w.params.followText "set-order")) }).objs.size := by
          rw [Heap.size_push]; exact Nat.ne_of_lt (Nat.lt_succ_of_lt hlS)
        have hSf : s.heap.objs.size ∉ [(s.heap.push { cls := .type "set", dict := none, data := .set #[] 0 (.fresh 0 0 (!w.params.followText "set-order")) }).objs.size, l] := by
          rw [Heap.size_push]; simp only [List.mem_cons, List.mem_singleton, List.not_mem_nil, or_false, not_or]
          exact ⟨Nat.ne_of_lt (Nat.lt_succ_self _), Nat.ne_of_gt hlS⟩
        have hval : ∀ (i : Nat) (v : Value), items[i]? = some v → ∃ k t, ns[i]? = some k ∧ v = .int k t := fun i v hv => by
          have hi : i < ns.length := by rw [← hisz]; exact (Array.getElem?_eq_some_iff.mp hv).1
          obtain ⟨t, e⟩ := PyProof.Rows.IntsAre.int_at hit i v (by rw [Array.getElem?_toList]; exact hv)
          refine ⟨ns[i], t, List.getElem?_eq_getElem hi, ?_⟩
          rw [e, List.getD_eq_getElem?_getD, List.getElem?_eq_getElem hi] <;> rfl
        refine set_update_ints ((Walks.list hh3 _ l hneI items).toS) s.heap.objs.size
          hSf ns hisz hb hval (items.size - 0) 0 _ (by omega) (Nat.zero_le _)
          ⟨⟨_, Heap.get?_push_size _ rfl, rfl, rfl⟩, (hl1.push _)⟩ ?hS0 ?hR
        case hS0 =>
          have hget : ((s.heap.push { cls := .type "set", dict := none, data := .set #[] 0 (.fresh 0 0 (!w.params.followText "set-order")) }).push { cls := .type "list_iterator", data := .fields #[.ref l, .int 0 0] }).get? s.heap.objs.size
              = some { cls := .type "set", dict := none, data := .set #[] 0 (.fresh 0 0 (!w.params.followText "set-order")) } := Heap.get?_push_of_some _ hS
          exact ⟨0, Nat.le_refl 0, setR_new_at hget⟩
        case hR =>
          intro s' c' hm hc' hS'
          obtain ⟨h', g2, d', tk', os'⟩ := s'
          have eg : g2 = s.gens := hm.gens
          have ed : d' = s.drawn := hm.drawn
          have eo : os' = s.os := hm.os
          subst eg; subst ed; subst eo
          show wpAny _ _ _ _ _ _
          refine wpAny_pure ?_
          show wpAny _ _ (PySem.ret Value.none) _ _ _
          rw [hisz] at hc'
          refine wpAny_pure ⟨rfl, h', tk', c', rfl, hS', hc', fun b o e => ?_⟩
          have hb0 : b < s.heap.objs.size := Heap.lt_size e
          have hb1 : b ≠ s.heap.objs.size := Nat.ne_of_lt hb0
          have hb2 : b ≠ (s.heap.push { cls := .type "set", dict := none, data := .set #[] 0 (.fresh 0 0 (!w.params.followText "set-order")) }).objs.size := by
            rw [Heap.size_push]; exact Nat.ne_of_lt (Nat.lt_succ_of_lt hb0)
          exact hm.heap b o (by simp only [List.mem_cons, List.mem_singleton, List.not_mem_nil, or_false, not_or]; exact ⟨hb1, hb2⟩) (Heap.get?_push_of_some _ (Heap.get?_push_of_some _ e))
      · cases r₂ with
        | error e => exact hr₂
        | ok fl₂ =>
          cases fl₂ with
          | ret r =>
            obtain ⟨rfl, h', tk, c', rfl, hS', hc', hk'⟩ := hr₂
            repeat (any_goals (first | assumption | wp_step))
            exact h _ _ _ hS' hc' hk'
          | _ => exact hr₂.elim
    | _ => exact hr.elim
end
section
variable {X : Cx}
end
end MV
namespace MV
open PySem PySem.Spec PyProof.Rows L2
def insD (k : Int) : List Int → List Int
  | [] => [k]
  | x :: r => if k < x then k :: x :: r else if k = x then x :: r else x :: insD k r
def dsI (ns : List Int) : List Int := ns.foldr insD []
def srtI (ns : List Int) : List Int := ns.mergeSort fun a b => decide (a ≤ b)
def keysI : List (Key × D) → Option (List Int)
  | [] => some []
  | (.inl i, _) :: r => (keysI r).map (i :: ·)
  | _ :: _ => none
def gSorted : List D → Option D
  | [.lst ds] => (asInts ds).map fun ns => .lst ((srtI ns).map .int)
  | [.dic kvs] => (keysI kvs).map fun ns => .lst ((srtI ns).map .int)
  | _ => none
def gSortSet : List D → Option D
  | [.lst ds] => match asInts ds with
    | some ns => if ns.length ≤ 4000 then some (.lst ((dsI ns).map .int)) else none
    | none => none
  | _ => none
section
variable {X : Cx} {cf : Cf} {W : WX} {c : Cls} {n n1 n2 : Bool}
end
end MV
namespace MV
open PySem PySem.Spec PyProof.Rows L2
def gR3 : List D → Option (List D)
  | [.int i, .int j, .int c] => if smallI i && smallI j && decide (c = -1) then some (rngC i (-1) (i - j).toNat) else none
  | _ => none
theorem RpL.three {K : PySem.W.Frag} {x : Bool} {G : Hp} {xs : List V} {d e f : D} (h : RpL K x G xs [d, e, f]) : ∃ v w u, xs = [v, w, u] ∧ Rp K x G v d ∧ Rp K x G w e ∧ Rp K x G u f := by
  cases h with
  | cons h1 r =>
    obtain ⟨w, u, rfl, h2, h3⟩ := r.two
    exact ⟨_, w, u, rfl, h1, h2, h3⟩
section
variable {X : Cx} {cf : Cf} {W : WX} {c : Cls} {n n1 n2 : Bool} {tg : Expr}
theorem si_range3 {a b b2 : Expr} {ta : TA} {fa : M (List D)} {p pos : Pos} (hg : Gl X "range") (hm : X.mg "range" = none) (ha : SA X cf W c [a, b, b2] ta fa) (hs : starEach [a, b, b2] X.env = (false, eval a X.env) :: starEach [b, b2] X.env := by rfl) (hpl : (backTo pos (starEach [b, b2] X.env)).any (·.1) = false := by rfl) : SI X cf W tg (.Call (.Name "range" p) [a, b, b2] [] pos) (iRng3 ta) (iN gR3 fa) := by
  obtain ⟨q, s⟩ := ha
  refine ⟨pi_range3 hg hm q hs hpl, SdI.mk (fun R Hs env σ H F wf r ds env' q Rk k => ?_) (fun R Hs env σ H F wf r x env' q Rk k => ?_)⟩
  · obtain ⟨d1, env1, q1, q⟩ := bnd_ok q
    obtain ⟨qg, rfl⟩ := lift_ok q
    unfold gR3 at qg
    split at qg
    · split at qg
      · rename_i hb
        cases qg
        rw [Bool.and_eq_true, Bool.and_eq_true, decide_eq_true_iff] at hb
        obtain ⟨⟨h1, h2⟩, rfl⟩ := hb
        refine s.ok r q1 fun v Hs1 H1 s1 r1 p1 => ?_
        obtain ⟨w, w2, w3, rfl, hw, hw2, hw3⟩ := p1.three
        exact ⟨_, _, _, _, by rw [hw.int_inv, hw2.int_inv, hw3.int_inv], RgC.neg (smallI_of h1).1 (smallI_of h1).2 (smallI_of h2).1 (smallI_of h2).2, k _ Hs1 H1 s1 r1 itc_ok⟩
      · cases qg
    · cases qg
  · rcases bnd_ex q with q | ⟨d1, env1, q1, q⟩
    · exact s.exn r q k
    · exact (lift_ex q).elim
end
@[simp] theorem gR3_i {i j : Int} : gR3 [.int i, .int j, .int (-1)] = if smallI i && smallI j then some (rngC i (-1) (i - j).toNat) else none := by
  unfold gR3; simp
def keyD : D → Option Key
  | .int i => some (.inl i)
  | .str x => some (.inr x)
  | _ => none
def keysD : List D → Option (List Key)
  | [] => some []
  | d :: r => match keyD d, keysD r with
    | some k, some ks => some (k :: ks)
    | _, _ => none
def dval {κ : Type} [DecidableEq κ] (kvs : List (κ × D)) (k : κ) : Option D := (kvs.find? fun kv => decide (kv.1 = k)).map (·.2)
def dput {κ : Type} [DecidableEq κ] (kvs : List (κ × D)) (k : κ) (d : D) : List (κ × D) :=
  if (kvs.any fun kv => decide (kv.1 = k)) = true then kvs.map (fun kv => if kv.1 = k then (kv.1, d) else kv) else kvs ++ [(k, d)]
def dLook : D → D → Option (Option D)
  | .dic kvs, y => (keyD y).map fun k => dval kvs k
  | .dit kvs, .tup ks => (keysD ks).map fun k => dval kvs k
  | _, _ => none
def isDic : D → Option Unit
  | .dic _ => some ()
  | .dit _ => some ()
  | _ => none
section
variable {κ : Type} [DecidableEq κ] {K : PySem.W.Frag} {x : Bool} {G : Hp}
end
def gDNewK : List D → Option D := fun _ => some (.dic [])
def gDNewT : List D → Option D := fun _ => some (.dit [])
def eDGet1 (fo fk : M D) : M D := bnd fo fun d => bnd (lift (isDic d)) fun _ => bnd fk fun k => lift ((dLook d k).map fun o => o.getD .non)
def eDGet2 (fo fk fx : M D) : M D := bnd fo fun d => bnd (lift (isDic d)) fun _ => bnd fk fun k => bnd fx fun x => lift ((dLook d k).map fun o => o.getD x)
section
variable {X : Cx} {cf : Cf} {W : WX} {c : Cls} {n n1 n2 n3 : Bool}
def dok : D → Bool
  | .dic [] => true
  | .dit [] => true
  | _ => false
def sSetD (i : Nat) (f : M D) : M Fl := bnd f fun d => bnd (lift (if dok d then some d else none)) fun d => fun e => .ok .nx (e.set i (some d))
end
end MV
namespace MV
open PySem PySem.Spec PyProof.Rows L2
def dPut : D → D → D → Option D
  | .dic kvs, y, v => match keyD y with
    | some k => if kvs.length < LIM then some (.dic (dput kvs k v)) else none
    | none => none
  | .dit kvs, .tup ks, v => match keysD ks with
    | some k => if kvs.length < LIM then some (.dit (dput kvs k v)) else none
    | none => none
  | _, _, _ => none
def dicAt (i : Nat) (e : PEnv) : Option D := match e[i]? with
  | some (some d) => if (isDic d).isSome then some d else none
  | _ => none
def sDP (i : Nat) (fv fk : M D) : M Fl := bnd fv fun d => fun e => match dicAt i e with
  | none => .stuck
  | some _ => bnd fk (fun k => fun e => match dicAt i e with
    | some m => match dPut m k d with
      | some m' => .ok .nx (e.set i (some m'))
      | none => .stuck
    | none => .stuck) e
section
variable {X : Cx} {cf : Cf} {W : WX} {c : Cls} {n n1 n2 n3 : Bool}
def gTup1 : List D → Option D
  | [.lst ds] => some (.tup ds)
  | _ => none
end
section
variable {e : PEnv} {fo fk fx fv : M D} {i : Nat} {ds : List D} {kvs : List (Key × D)} {kts : List (List Key × D)}
@[simp] theorem r_eDGet1 : eDGet1 fo fk e = rb (fo e) fun d e => ro (isDic d) fun _ => rb (fk e) fun k e => lift ((dLook d k).map fun o => o.getD .non) e := by
  show rb (fo e) _ = _
  congr 1; funext d e
  show rb (lift (isDic d) e) _ = _
  cases isDic d <;> rfl
@[simp] theorem r_eDGet2 : eDGet2 fo fk fx e = rb (fo e) fun d e => ro (isDic d) fun _ => rb (fk e) fun k e => rb (fx e) fun x e => lift ((dLook d k).map fun o => o.getD x) e := by
  show rb (fo e) _ = _
  congr 1; funext d e
  show rb (lift (isDic d) e) _ = _
  cases isDic d <;> rfl
@[simp] theorem r_sSetD : sSetD i fv e = rb (fv e) fun d e => if dok d then .ok .nx (e.set i (some d)) else .stuck := by
  show rb (fv e) _ = _
  congr 1; funext d e; cases h : dok d <;> simp [h]
def dicO (o : Option (Option D)) : Option D := match o with
  | some (some d) => if (isDic d).isSome then some d else none
  | _ => none
@[simp] theorem dicO_k : dicO (some (some (.dic kvs))) = some (.dic kvs) := (rfl)
@[simp] theorem dicO_t : dicO (some (some (.dit kts))) = some (.dit kts) := (rfl)
@[simp] theorem r_sDP : sDP i fv fk e = rb (fv e) fun d e => ro (dicO (e[i]?)) fun _ => rb (fk e) fun k e => ro (dicO (e[i]?)) fun m => ro (dPut m k d) fun m' => .ok .nx (e.set i (some m')) := by
  show rb (fv e) _ = _
  congr 1; funext d e
  show _ = ro (dicAt i e) _
  cases dicAt i e with
  | none => rfl
  | some m =>
    show rb (fk e) _ = _
    simp only [ro_some]
    congr 1; funext k e
    show _ = ro (dicAt i e) _
    cases dicAt i e with
    | none => rfl
    | some m => simp only [ro_some]; cases dPut m k d <;> rfl
@[simp] theorem isDic_k : isDic (.dic kvs) = some () := (rfl)
@[simp] theorem isDic_t : isDic (.dit kts) = some () := (rfl)
@[simp] theorem gDNewK_v : gDNewK ds = some (.dic []) := (rfl)
@[simp] theorem gDNewT_v : gDNewT ds = some (.dit []) := (rfl)
@[simp] theorem dok_k : dok (.dic []) = true := (rfl)
@[simp] theorem dok_t : dok (.dit []) = true := (rfl)
@[simp] theorem gTup1_l : gTup1 [.lst ds] = some (.tup ds) := (rfl)
@[simp] theorem keyD_i {j : Int} : keyD (.int j) = some (.inl j) := (rfl)
@[simp] theorem keyD_s {x : Str} : keyD (.str x) = some (.inr x) := (rfl)
@[simp] theorem dLook_k {y : D} : dLook (.dic kvs) y = (keyD y).map fun k => dval kvs k := (rfl)
@[simp] theorem dLook_t : dLook (.dit kts) (.tup ds) = (keysD ds).map fun k => dval kts k := (rfl)
@[simp] theorem gSortSet_l : gSortSet [.lst ds] = match asInts ds with | some ns => if ns.length ≤ 4000 then some (.lst ((dsI ns).map .int)) else none | none => none := (rfl)
@[simp] theorem gSorted_l : gSorted [.lst ds] = (asInts ds).map fun ns => .lst ((srtI ns).map .int) := (rfl)
@[simp] theorem gSorted_k : gSorted [.dic kvs] = (keysI kvs).map fun ns => .lst ((srtI ns).map .int) := (rfl)
end
end MV
namespace MV
open PySem PySem.Spec PyProof.Rows L2
def eChain (g g' : D → D → Option D) (fa fb fc : M D) : M D := bnd fa fun x => bnd fb fun y => bnd (lift (g x y)) fun z => bnd (lift (asB z)) fun k => if k then bnd fc fun w => lift (g' y w) else ret (.bl false)
section
variable {X : Cx} {cf : Cf} {W : WX} {ca cb cc : Cls} {n1 n2 n3 : Bool} {a b c : Expr} {ta tb tc : TE} {fa fb fc : M D} {pos : Pos} {g g' : Int → Int → Bool}
end
section
variable {e : PEnv} {fa fb fc : M D} {g g' : D → D → Option D}
@[simp] theorem r_eChain : eChain g g' fa fb fc e = rb (fa e) fun x e => rb (fb e) fun y e => rb (lift (g x y) e) fun z e => rb (lift (asB z) e) fun k e => if k then rb (fc e) fun w e => lift (g' y w) e else .ok (.bl false) e := by
  show rb (fa e) _ = _
  congr 1; funext x e
  show rb (fb e) _ = _
  congr 1; funext y e
  show rb _ _ = _
  congr 1; funext z e
  show rb _ _ = _
  congr 1; funext k e; cases k <;> rfl
end
end MV
namespace MV
open PySem PySem.Spec PyProof.Rows L2
section
variable {X : Cx} {cf : Cf} {W : WX} {c : Cls} {n n1 n2 : Bool}
def sSetML (i : Nat) (fa : M (List D)) : M Fl := bnd fa fun ds => fun e => if ds.length ≤ LIM then .ok .nx (e.set i (some (.lst ds))) else .stuck
def sSetMC (i : Nat) (fa : M (List D)) : M Fl := fun e => match lstAt i e with
  | none => .stuck
  | some _ => bnd fa (fun ds => fun e => match lstAt i e with
    | some ds0 => if ds0.length + ds.length ≤ LIM then .ok .nx (e.set i (some (.lst (ds0 ++ ds)))) else .stuck
    | none => .stuck) e
theorem SdA.bind {ta : TA} {fa : M (List D)} {g : List D → M Fl} {R : Rs} {Hs : Hp} {env : PEnv} {σ : L2.St} {H : Hp} {F : Nat → List Addr} {wf : List Addr} {D : Ends} {Q : List V → Hp → Prop} (s : SdA cf W c ta fa) (r : Rel cf R Hs env σ H F wf) (hp : Post cf W R Hs D (bnd fa g env))
    (hx : ∀ x σ' H', W x none σ' H' → W x none σ' H')
    (k : ∀ ds env1 vs Hs1 H1, Stp cf wf env Hs H env1 Hs1 H1 → Rel cf R Hs1 env1 σ H1 F wf → RpL cf.K true (rg c R.H0 Hs1 H H1 wf) vs ds → Post cf W R Hs D (g ds env1) → Q vs H1) : ta σ H Q := by
  cases q : fa env with
  | ok ds env1 => exact s.ok r q fun vs Hs1 H1 s1 r1 p1 => k ds env1 vs Hs1 H1 s1 r1 p1 (by rw [bnd_of_ok q] at hp; exact hp)
  | ex x env1 => exact s.exn r q fun Hs1 H1 s1 r1 => by rw [bnd_of_ex q] at hp; exact hp Hs1 σ H1 F wf s1.ex r1
  | stuck => rw [bnd_of_stuck q] at hp; exact hp.elim
end
section
variable {P : Program} {w : World} {K : PySem.W.Frag} {mg : Str → Option Value} {base : Heap}
end
section
variable {e : PEnv} {i : Nat} {r : M (List D)}
@[simp] theorem r_sSetML : sSetML i r e = rb (r e) fun ds e => if ds.length ≤ LIM then .ok .nx (e.set i (some (.lst ds))) else .stuck := (rfl)
@[simp] theorem r_sSetMC : sSetMC i r e = ro (lstO (e[i]?)) fun _ => rb (r e) fun ds e => ro (lstO (e[i]?)) fun ds0 => if ds0.length + ds.length ≤ LIM then .ok .nx (e.set i (some (.lst (ds0 ++ ds)))) else .stuck := by
  unfold sSetMC
  show _ = ro (lstAt i e) _
  cases lstAt i e with
  | none => rfl
  | some ds =>
    show rb (r e) _ = _
    simp only [ro_some]
    congr 1; funext d e
    show _ = ro (lstAt i e) _
    cases lstAt i e <;> rfl
end
end MV
namespace MV
open PySem L2
open PySem.W (alike alikeAll dataLt minD AlikeAll AllAlike Sortable dataLe EachIs)
def D.P (d : D) : PyData := d.toP.getD .none
mutual
theorem toP_inj : ∀ {a b : D} {p : PyData}, a.toP = some p → b.toP = some p → a = b
  | .non, b, p, h, h2 => by cases h; cases b <;> first | rfl | (simp [D.toP] at h2)
  | .bl x, b, p, h, h2 => by cases h; cases b <;> first | (simp [D.toP] at h2; subst h2; rfl) | (simp [D.toP] at h2)
  | .int x, b, p, h, h2 => by cases h; cases b <;> first | (simp [D.toP] at h2; subst h2; rfl) | (simp [D.toP] at h2)
  | .str x, b, p, h, h2 => by cases h; cases b <;> first | (simp [D.toP] at h2; subst h2; rfl) | (simp [D.toP] at h2)
  | .lst xs, b, p, h, h2 => by
    rw [D.toP, Option.map_eq_some_iff] at h
    obtain ⟨ps, h, rfl⟩ := h
    cases b with
    | lst ys =>
      rw [D.toP, Option.map_eq_some_iff] at h2
      obtain ⟨qs, h2, e⟩ := h2
      cases e
      rw [toPs_inj h h2]
    | _ => simp [D.toP] at h2
  | .tup xs, b, p, h, h2 => by
    rw [D.toP, Option.map_eq_some_iff] at h
    obtain ⟨ps, h, rfl⟩ := h
    cases b with
    | tup ys =>
      rw [D.toP, Option.map_eq_some_iff] at h2
      obtain ⟨qs, h2, e⟩ := h2
      cases e
      rw [toPs_inj h h2]
    | _ => simp [D.toP] at h2
  | .dic _, b, p, h, h2 => by cases h
  | .dit _, b, p, h, h2 => by cases h
  | .exc _, b, p, h, h2 => by cases h
theorem toPs_inj : ∀ {a b : List D} {p : List PyData}, toPs a = some p → toPs b = some p → a = b
  | [], b, p, h, h2 => by
    cases h
    cases b with
    | nil => rfl
    | cons y ys => rw [toPs] at h2; split at h2 <;> cases h2
  | x :: xs, b, p, h, h2 => by
    rw [toPs] at h
    split at h
    · rename_i p1 p2 e1 e2
      cases h
      cases b with
      | nil => cases h2
      | cons y ys =>
        rw [toPs] at h2
        split at h2
        · rename_i q1 q2 f1 f2
          cases h2
          rw [toP_inj e1 f1, toPs_inj e2 f2]
        · cases h2
    · cases h
end
def okO (l : List D) : Bool := l.all fun a => a.toP.isSome && decide (a.P.depth ≤ 60) && (match a with | .non => false | _ => true) && l.all fun b => alike a.P b.P
def ltD (a b : D) : Bool := dataLt a.P b.P
section
variable {X : Cx} {cf : Cf} {W : WX} {c ca cb : Cls} {n n1 n2 : Bool} {a b : Expr} {ta tb : TE} {fa fb : M D} {pos : Pos}
end
def mnD (d : D) (ds : List D) : D := ds.foldl (fun a y => if ltD y a then y else a) d
def gMinD : List D → Option D
  | [.lst (d :: ds)] => if okO (d :: ds) then some (mnD d ds) else none
  | _ => none
def gMinX : List D → Option D
  | [.lst []] => some .non
  | x => gMinD x
section
variable {X : Cx} {cf : Cf} {W : WX} {c ca cb : Cls} {n n1 n2 : Bool} {e : Expr} {es : List Expr} {tA : TA} {fA : M (List D)} {p pos kpos npos : Pos} {j : Nat}
end
end MV
namespace MV
open PySem PySem.Spec PyProof.Rows L2
section
variable {X : Cx} {cf : Cf} {W : WX} {c : Cls} {n n1 n2 : Bool}
structure ItOkN (K : PySem.W.Frag) (H0 : Hp) (J : It) (G1 Hs1 : Hp) (ds : List D) : Prop where
  go : ∀ i H, i < ds.length → Ex G1 H → J.go i H
  stop : ∀ H, Ex G1 H → J.stop ds.length H
  yld : ∀ i H x H', Ex G1 H → i < ds.length → J.yld i H x H' → Ex H H' ∧ ∀ G, Ex Hs1 G → Ex G H → ∃ d, ds[i]? = some d ∧ Rp K true (rs G H0) x d
def SdIN (cf : Cf) (W : WX) (wi : TI) (fi : M (List D)) : Prop :=
  ∀ (R : Rs) (Hs : Hp) (env : PEnv) (σ : L2.St) (H : Hp) (F : Nat → List Addr) (wf : List Addr), Rel cf R Hs env σ H F wf → ∀ Rk : It → Hp → Prop,
    match fi env with
    | .ok ds env' => (∀ J G1 Hs' H', Stp cf wf env Hs H env' Hs' H' → Rel cf R Hs' env' σ H' F wf → Ex G1 (rm H' wf) → ItOkN cf.K R.H0 J G1 Hs' ds → Rk J H') → wi σ H Rk
    | .ex x env' => (∀ Hs' H', Stp cf wf env Hs H env' Hs' H' → Rel cf R Hs' env' σ H' F wf → W (cf.cv x) none σ H') → wi σ H Rk
    | .stuck => True
structure SIN (X : Cx) (cf : Cf) (W : WX) (tg iter : Expr) (wi : TI) (fi : M (List D)) : Prop where
  p : PI X tg iter wi
  s : SdIN cf W wi fi
def SdGN (cf : Cf) (is : List Nat) (g : TG) (tg : D → M Unit) : Prop :=
  ∀ (R : Rs) (Hs : Hp) (env : PEnv) (σ : L2.St) (H : Hp) (F : Nat → List Addr) (wf : List Addr), Rel cf R Hs env σ H F wf → ∀ (d : D) (v : V), Rp cf.K true (rs Hs R.H0) v d → ∀ Q : L2.St → Hp → Prop,
    match tg d env with
    | .ok _ env' => (∀ σ', Rel cf R Hs env' σ' H F wf → wipe σ' is = wipe σ is → (∀ j, j ∉ is → env'[j]? = env[j]?) → Q σ' H) → g v σ H Q
    | .ex _ _ => False
    | .stuck => True
structure SGtN (X : Cx) (cf : Cf) (is : List Nat) (tg : Expr) (g : TG) (f : D → M Unit) : Prop where
  p : PG X tg g
  s : SdGN cf is g f
end
section
variable {X : Cx} {cf : Cf} {W : WX} {ca cb : Cls} {n1 n2 : Bool} {a b : Expr} {ta tb : TE} {fa fb : M D} {pos : Pos}
end
end MV
namespace MV
open PySem PySem.Spec PyProof.Rows L2
section
variable {K : PySem.W.Frag} {Hn H : Hp}
theorem Own.sc_nil {F : List Addr} {v : V} {d : D} (h : Own K Hn H F v d) (hs : d.sc = true) : F = [] := by
  cases h with
  | leaf _ => rfl
  | lst _ _ => cases hs
  | tup _ _ => cases hs
  | dic _ _ _ => cases hs
  | dit _ _ _ => cases hs
theorem OwnL.init : ∀ {F : List Addr} {vs : List V} {ds : List D} {v : V} {d : D}, OwnL K Hn H F (vs ++ [v]) (ds ++ [d]) → vs.length = ds.length → d.sc = true → OwnL K Hn H F vs ds
  | _, [], [], v, d, h, _, hs => by
    have h : OwnL K Hn H _ [v] [d] := h
    cases h with
    | cons h1 h2 =>
      cases h2
      rw [h1.sc_nil hs]
      exact .nil
  | _, _ :: _, [], v, d, h, hl, _ => by cases hl
  | _, [], _ :: _, v, d, h, hl, _ => by cases hl
  | _, x :: xs, y :: ys, v, d, h, hl, hs => by
    have h : OwnL K Hn H _ (x :: (xs ++ [v])) (y :: (ys ++ [d])) := h
    cases h with
    | cons h1 h2 => exact .cons h1 (OwnL.init h2 (by simpa using hl) hs)
theorem OwnL.set : ∀ {F : List Addr} {vs : List V} {ds : List D} (j : Nat) {v : V} {d d0 : D}, OwnL K Hn H F vs ds → ds[j]? = some d0 → d0.sc = true → Rp K true Hn v d → OwnL K Hn H F (vs.set j v) (ds.set j d)
  | _, _, _, j, v, d, d0, .nil, h, _, _ => by simp at h
  | _, _, _, 0, v, d, d0, .cons h1 h2, h, hs, r => by
    simp at h
    subst h
    have e := h1.sc_nil hs
    subst e
    exact OwnL.cons (F := []) (.leaf r) h2
  | _, _, _, j + 1, v, d, d0, .cons h1 h2, h, hs, r => .cons h1 (OwnL.set j h2 (by simpa using h) hs r)
end
section
variable {X : Cx} {cf : Cf} {W : WX} {c : Cls} {n n1 n2 : Bool}
def PostQ (cf : Cf) (W : WX) (R : Rs) (Hs : Hp) (env : PEnv) (σ : L2.St) (H : Hp) (F : Nat → List Addr) (wf : List Addr) (D : Ends) : Res Fl → Prop
  | .ok .nx env' => ∀ Hs' H', Stp cf wf env Hs H env' Hs' H' → Rel cf R Hs' env' σ H' F wf → D.nx σ H'
  | .ok (.rt d) env' => ∀ v Hs' H', Stp cf wf env Hs H env' Hs' H' → Rel cf R Hs' env' σ H' F wf → Rp cf.K true (rs (rm H' wf) R.H0) v d → D.rt v H'
  | .ok .bk env' => ∀ Hs' H', Stp cf wf env Hs H env' Hs' H' → Rel cf R Hs' env' σ H' F wf → D.bk σ H'
  | .ok .ct env' => ∀ Hs' H', Stp cf wf env Hs H env' Hs' H' → Rel cf R Hs' env' σ H' F wf → D.ct σ H'
  | .ex x env' => ∀ Hs' H', Stp cf wf env Hs H env' Hs' H' → Rel cf R Hs' env' σ H' F wf → W (cf.cv x) none σ H'
  | .stuck => False
def SdQ (cf : Cf) (W : WX) (ts : TS) (g : M Fl) : Prop :=
  ∀ (R : Rs) (Hs : Hp) (env : PEnv) (σ : L2.St) (H : Hp) (F : Nat → List Addr) (wf : List Addr), Rel cf R Hs env σ H F wf → ∀ D : Ends, PostQ cf W R Hs env σ H F wf D (g env) → ts D σ H
def SQ (X : Cx) (cf : Cf) (W : WX) (st : Stmt) (g : M Fl) : Prop := ∃ t, PS X st t ∧ SdQ cf W t g
def SQs (X : Cx) (cf : Cf) (W : WX) (st : List Stmt) (g : M Fl) : Prop := ∃ t, PSs X st t ∧ SdQ cf W t g
theorem PostQ.step {R : Rs} {Hs Hs1 : Hp} {env env1 : PEnv} {σ : L2.St} {H H1 : Hp} {F : Nat → List Addr} {wf : List Addr} {D : Ends} {x : Res Fl} (s : Stp cf wf env Hs H env1 Hs1 H1) (h : PostQ cf W R Hs env σ H F wf D x) : PostQ cf W R Hs1 env1 σ H1 F wf D x := by
  cases x with
  | ok f env' =>
    cases f with
    | nx => exact fun Hs' H' s' r' => h Hs' H' (s.trans s') r'
    | rt d => exact fun v Hs' H' s' r' p => h v Hs' H' (s.trans s') r' p
    | bk => exact fun Hs' H' s' r' => h Hs' H' (s.trans s') r'
    | ct => exact fun Hs' H' s' r' => h Hs' H' (s.trans s') r'
  | ex c env' => exact fun Hs' H' s' r' => h Hs' H' (s.trans s') r'
  | stuck => exact h
theorem sqs_nil : SQs X cf W [] sSkip := ⟨_, pss_nil, fun R Hs env σ H F wf r D hp => hp Hs H Stp.refl r⟩
theorem sq_ret {e : Expr} {te : TE} {f : M D} {pos : Pos} (h : SE X cf W .L n e te f) : SQ X cf W (.Return (some e) pos) (sRet f) := by
  obtain ⟨p, s⟩ := h
  refine ⟨_, ps_ret p, fun R Hs env σ H F wf r D hp => ?_⟩
  have hp : PostQ cf W R Hs env σ H F wf D (bnd f (fun d => ret (.rt d)) env) := hp
  unfold bnd at hp
  cases q : f env with
  | ok d env1 => rw [q] at hp; exact s.ok r q fun v Hs1 H1 s1 r1 p1 _ => hp v Hs1 H1 s1 r1 p1
  | ex x env1 => rw [q] at hp; exact s.exn r q fun Hs1 H1 s1 r1 => hp Hs1 H1 s1 r1
  | stuck => rw [q] at hp; exact hp.elim
theorem sq_if {e : Expr} {a b : List Stmt} {tt : TT} {ft : M Bool} {fa fb : M Fl} {pos : Pos} (ht : ST X cf W e tt ft) (ha : SQs X cf W a fa) (hb : SQs X cf W b fb) : SQ X cf W (.If e a b pos) (sIf ft fa fb) := by
  obtain ⟨p, s⟩ := ht
  obtain ⟨ta, pa, sa⟩ := ha
  obtain ⟨tb, pb, sb⟩ := hb
  refine ⟨_, ps_if p pa pb, fun R Hs env σ H F wf r D hp => ?_⟩
  have hp : PostQ cf W R Hs env σ H F wf D (bnd ft (fun k => if k then fa else fb) env) := hp
  unfold bnd at hp
  cases q : ft env with
  | ok k env1 =>
    rw [q] at hp
    refine s.ok r q fun Hs1 H1 s1 r1 => ?_
    cases k with
    | true => exact sa R Hs1 env1 σ H1 F wf r1 D (PostQ.step s1 hp)
    | false => exact sb R Hs1 env1 σ H1 F wf r1 D (PostQ.step s1 hp)
  | ex x env1 => rw [q] at hp; exact s.exn r q fun Hs1 H1 s1 r1 => hp Hs1 H1 s1 r1
  | stuck => rw [q] at hp; exact hp.elim
theorem sqs_one {st : Stmt} {a : M Fl} (ha : SQ X cf W st a) : SQs X cf W [st] a := let ⟨_, p, s⟩ := ha; ⟨_, pss_one p, s⟩
end
end MV
namespace MV
open PySem PySem.Spec PyProof.Rows L2
structure FnQ (P : Program) (w : World) (K : PySem.W.Frag) (mg : Str → Option Value) (base : Heap) (k : Nat) (f : Addr) (fd : FuncData) (ps : List Str) (sp : Sp) : Prop where
  len : ∀ vs H Q E, sp vs H Q E → vs.length = ps.length
  run : ∀ (A : Around) (outer : List Env) (s : Shared) (H : Hp) (args : Args) (us : List Value) (vs : List V) (Q : VK) (E : XK), L2H.RoomH k A → Env0 P w K mg base A outer s H →
    BindsTo s fd args (ps.zip us) → Vals vs us → sp vs H Q E → codeAny (model P w) A (.call (.ref f) args) (CR (L2N.CX P w) outer P w H s Q E) s
section
variable {P : Program} {w : World} {K : PySem.W.Frag} {mg : Str → Option Value} {base : Heap}
end
section
variable {X : Cx} {cf : Cf} {W : WX}
end
section
variable {X : Cx} {x n : Str} {c : Value} {i : Nat} {body suite : List Stmt} {b₀ : Stmt} {np pos pos' : Pos} {tb : WX → TS} {ts : Addr → Value → TS} {Wo : WX}
end
section
variable {X : Cx} {cf : Cf} {W : WX}
end
end MV
namespace MV
open PySem PySem.Spec PyProof.Rows L2
def Kd.lent : Kd → Kd
  | .M => .S
  | .P => .S
  | k => k
def Cf.lent (cf : Cf) : Cf := ⟨cf.K, fun i => (cf.kd i).lent, cf.cv⟩
theorem lent_W {k : Kd} : k.lent = .W ↔ k = .W := by cases k <;> simp [Kd.lent]
section
open Classical
variable {cf : Cf} {R : Rs} {Hs H : Hp} {env : PEnv} {σ : L2.St} {F : Nat → List Addr} {wf : List Addr}
def Held (cf : Cf) (F : Nat → List Addr) (a : Addr) : Prop := ∃ i, cf.kd i ≠ .W ∧ a ∈ F i
noncomputable def lendH (cf : Cf) (F : Nat → List Addr) (Hs H : Hp) : Hp := fun a => if Held cf F a then H a else Hs a
noncomputable def backH (cf : Cf) (F : Nat → List Addr) (Hs : Hp) : Hp := fun a => if Held cf F a then none else Hs a
def lendF (cf : Cf) (F : Nat → List Addr) : Nat → List Addr := fun i => if cf.kd i = .W then F i else []
theorem lend_yes {a : Addr} (h : Held cf F a) : lendH cf F Hs H a = H a := by unfold lendH; rw [if_pos h]
theorem lend_no {a : Addr} (h : ¬ Held cf F a) : lendH cf F Hs H a = Hs a := by unfold lendH; rw [if_neg h]
theorem back_yes {a : Addr} (h : Held cf F a) : backH cf F Hs a = none := by unfold backH; rw [if_pos h]
theorem back_no {a : Addr} (h : ¬ Held cf F a) : backH cf F Hs a = Hs a := by unfold backH; rw [if_neg h]
theorem lendF_mem {i : Nat} {a : Addr} (h : a ∈ lendF cf F i) : cf.kd i = .W ∧ a ∈ F i := by
  unfold lendF at h
  split at h
  · rename_i q; exact ⟨q, h⟩
  · cases h
theorem Held.un (r : Rel cf R Hs env σ H F wf) {a : Addr} (h : Held cf F a) : Hs a = none := by obtain ⟨i, _, m⟩ := h; exact r.uns i a m
theorem Held.nw (r : Rel cf R Hs env σ H F wf) {a : Addr} (h : Held cf F a) : a ∉ wf := by obtain ⟨i, k, m⟩ := h; exact r.volb i k a m
theorem Held.dom (r : Rel cf R Hs env σ H F wf) {a : Addr} (h : Held cf F a) : H a ≠ none := by obtain ⟨i, k, m⟩ := h; exact r.fdom i a m
theorem lend_ex (r : Rel cf R Hs env σ H F wf) : Ex Hs (lendH cf F Hs H) := fun a o h => by
  rw [lend_no (fun q => by rw [q.un r] at h; cases h)]
  exact h
theorem Rel.lend (r : Rel cf R Hs env σ H F wf) : Rel cf.lent R (lendH cf F Hs H) env σ H (lendF cf F) wf where
  len := r.len
  exs := fun a o h => by
    by_cases q : Held cf F a
    · rw [lend_yes q] at h; exact h
    · rw [lend_no q] at h; exact r.exs a o h
  ex0 := fun a o h n => lend_ex r a o (r.ex0 a o h n)
  dom0 := r.dom0
  slot := fun i d h => by
    obtain ⟨v, h1, h2⟩ := r.slot i d h
    refine ⟨v, h1, ?_⟩
    show SlotR cf.K R (lendH cf F Hs H) H (lendF cf F i) (cf.kd i).lent v d
    have own : cf.kd i ≠ .W → ∀ a ∈ F i, ∀ o, H a = some o → lendH cf F Hs H a = some o := fun k a m o e => by rw [lend_yes ⟨i, k, m⟩]; exact e
    cases q : cf.kd i with
    | S => rw [q] at h2; exact Rp.mono (lend_ex r) h2
    | Q => rw [q] at h2; exact Rp.mono (lend_ex r) h2
    | P =>
      rw [q] at h2
      exact Own.rp (G := lendH cf F Hs H) (fun a o z => by cases z) h2 (own (by rw [q]; exact fun z => by cases z))
    | N => rw [q] at h2; exact Rp.mono (rs_mono (lend_ex r)) h2
    | M =>
      rw [q] at h2
      exact Own.rp (G := lendH cf F Hs H) ((rs_sub _ _).trans (lend_ex r)) h2.1 (own (by rw [q]; exact fun z => by cases z))
    | W =>
      rw [q] at h2
      unfold lendF
      rw [if_pos q]
      exact h2
  nod := fun i => by
    unfold lendF
    split
    · exact r.nod i
    · exact List.nodup_nil
  dis := fun i j n a m m' => r.dis i j n a (lendF_mem m).2 (lendF_mem m').2
  fdom := fun i a m => r.fdom i a (lendF_mem m).2
  uns := fun i a m => by
    obtain ⟨k, m⟩ := lendF_mem m
    rw [lend_no (fun ⟨j, kj, mj⟩ => r.dis i j (fun e => by subst e; exact kj k) a m mj)]
    exact r.uns i a m
  new := fun i a m => r.new i a (lendF_mem m).2
  volw := fun i _ a m => r.volw i (lendF_mem m).1 a (lendF_mem m).2
  volb := fun i k a m => absurd (lent_W.mpr (lendF_mem m).1) k
  wdom := fun a m => by
    obtain ⟨h1, h2⟩ := r.wdom a m
    exact ⟨h1, by rw [lend_no (fun q => q.nw r m)]; exact h2⟩
  ior := fun p h => by
    obtain ⟨h1, h2, h3, h4⟩ := r.ior p h
    refine ⟨h1, ?_, lent_W.mpr h3, h4⟩
    unfold lendF
    rw [if_pos h3]
    exact h2
theorem stp_back {env' : PEnv} {Hs' H' : Hp} (r : Rel cf R Hs env σ H F wf) (s : Stp cf.lent wf env (lendH cf F Hs H) H env' Hs' H') : Stp cf wf env Hs H env' (backH cf F Hs') H' where
  dom := s.dom
  ex := fun a o h => by
    have q : ¬ Held cf F a := fun q => by rw [q.un r] at h; cases h
    rw [back_no q]
    exact s.ex a o (by rw [lend_no q]; exact h)
  keep := s.keep
  same := fun a h => by
    by_cases q : Held cf F a
    · rw [back_yes q, q.un r]
    · rw [back_no q, s.same a h, lend_no q]
  kp := fun i k => s.kp i (fun z => k (lent_W.mp z))
theorem rel_back {env' : PEnv} {Hs' H' : Hp} (r : Rel cf R Hs env σ H F wf) (s : Stp cf.lent wf env (lendH cf F Hs H) H env' Hs' H') (r' : Rel cf.lent R Hs' env' σ H' (lendF cf F) wf) : Rel cf R (backH cf F Hs') env' σ H' F wf := by
  have sb := stp_back r s
  have sub : ∀ a o, backH cf F Hs' a = some o → Hs' a = some o := fun a o h => by
    by_cases q : Held cf F a
    · rw [back_yes q] at h; cases h
    · rw [back_no q] at h; exact h
  have memW : ∀ {i : Nat}, cf.kd i = .W → lendF cf F i = F i := fun {i} k => by unfold lendF; rw [if_pos k]
  refine
    { len := r'.len
      exs := fun a o h => r'.exs a o (sub a o h)
      ex0 := fun a o h n => sb.ex a o (r.ex0 a o h n)
      dom0 := r'.dom0
      slot := fun i d h => ?_
      nod := r.nod
      dis := r.dis
      fdom := fun i a m => sb.dom a (r.fdom i a m)
      uns := fun i a m => ?_
      new := r.new
      volw := r.volw
      volb := r.volb
      wdom := fun a m => ?_
      ior := fun p h => ?_ }
  · by_cases k : cf.kd i = .W
    · obtain ⟨v, h1, h2⟩ := r'.slot i d h
      refine ⟨v, h1, ?_⟩
      have h2 : SlotR cf.K R Hs' H' (lendF cf F i) (cf.kd i).lent v d := h2
      rw [k, memW k] at h2
      rw [k]
      exact h2
    · rw [sb.kp i k] at h
      obtain ⟨v, h1, h2⟩ := r.slot i d h
      refine ⟨v, h1, ?_⟩
      have own : ∀ a ∈ F i, ∀ o, H a = some o → H' a = some o := fun a m o e => sb.keep a o (r.volb i k a m) e
      cases q : cf.kd i with
      | S => rw [q] at h2; exact Rp.mono sb.ex h2
      | Q => rw [q] at h2; exact Rp.mono sb.ex h2
      | P => rw [q] at h2; exact Own.keep (Ex.refl _) h2 own
      | N => rw [q] at h2; exact Rp.mono (rs_mono sb.ex) h2
      | M => rw [q] at h2; exact ⟨Own.keep (rs_mono sb.ex) h2.1 own, h2.2⟩
      | W => exact absurd q k
  · by_cases k : cf.kd i = .W
    · have z := r'.uns i a (by rw [memW k]; exact m)
      by_cases q : Held cf F a
      · exact back_yes q
      · rw [back_no q]; exact z
    · exact back_yes ⟨i, k, m⟩
  · obtain ⟨h1, h2⟩ := r'.wdom a m
    refine ⟨h1, ?_⟩
    by_cases q : Held cf F a
    · exact back_yes q
    · rw [back_no q]; exact h2
  · obtain ⟨h1, h2, h3, h4⟩ := r'.ior p h
    exact ⟨h1, (r.ior p h).2.1, lent_W.mp h3, h4⟩
end
section
variable {X : Cx} {cf : Cf} {W : WX} {a : Expr} {ta : TE} {fa : M D} {n : Bool}
end
end MV
namespace MV
open PySem PySem.Spec PyProof.Rows L2
open PySem.W (minD)
def gIxL : D → D → Option D
  | .lst ds, .int i => L2.atI ds i
  | _, _ => none
@[simp] theorem gIxL_l {ds : List D} {i : Int} : gIxL (.lst ds) (.int i) = L2.atI ds i := (rfl)
section
variable {X : Cx} {cf : Cf} {W : WX} {c : Cls} {n n1 : Bool}
def gMinXL : List D → Option D
  | [.lst ds] => gMinX [.lst ds]
  | _ => none
@[simp] theorem gMinXL_l {ds : List D} : gMinXL [.lst ds] = gMinX [.lst ds] := (rfl)
section
variable {e : Expr} {p pos kpos npos : Pos} {j i : Nat}
end
section
variable {R : Rs} {Hs H : Hp} {env : PEnv} {σ : L2.St} {F : Nat → List Addr} {wf : List Addr}
end
end
end MV
namespace MV
open PySem PySem.Spec PyProof.Rows L2
section
variable {X : Cx} {cf : Cf} {W : WX} {c : Cls} {n n1 : Bool}
def SdGsN (cf : Cf) (is js : List Nat) (g : TGs) : Prop :=
  ∀ (R : Rs) (Hs : Hp) (env : PEnv) (σ : L2.St) (H : Hp) (F : Nat → List Addr) (wf : List Addr), Rel cf R Hs env σ H F wf → ∀ (ds : List D) (vs : List V), RpL cf.K true (rs Hs R.H0) vs ds → ∀ Q : L2.St → Hp → Prop, ∀ env', setAll js ds env = some env' →
    (∀ σ', Rel cf R Hs env' σ' H F wf → wipe σ' is = wipe σ is → (∀ j, j ∉ is → env'[j]? = env[j]?) → Q σ' H) → g vs σ H Q
structure SGtsN (X : Cx) (cf : Cf) (is js : List Nat) (ts : List Expr) (g : TGs) : Prop where
  p : PGs X ts g
  s : SdGsN cf is js g
end
end MV
namespace MV
open PySem PySem.Spec PyProof.Rows L2
def gZpA : List D → Option (List D)
  | [.lst as, .lst bs] => some (zipD as bs)
  | [.tup as, .tup bs] => some (zipD as bs)
  | _ => none
@[simp] theorem gZpA_l {a b : List D} : gZpA [.lst a, .lst b] = some (zipD a b) := (rfl)
@[simp] theorem gZpA_t {a b : List D} : gZpA [.tup a, .tup b] = some (zipD a b) := (rfl)
section
variable {X : Cx} {cf : Cf} {W : WX} {c : Cls} {n n1 : Bool}
end
end MV
namespace MV
open PySem PySem.Spec PyProof.Rows L2
def sClr (i : Nat) : M Fl := fun e => match lstAt i e with
  | some _ => .ok .nx (e.set i (some (.lst [])))
  | none => .stuck
section
variable {X : Cx} {cf : Cf} {W : WX} {c : Cls} {n n1 : Bool}
@[simp] theorem r_sClr {i : Nat} {e : PEnv} : sClr i e = ro (lstO (e[i]?)) fun _ => .ok .nx (e.set i (some (.lst []))) := by
  unfold sClr
  show _ = ro (lstAt i e) _
  cases lstAt i e <;> rfl
end
end MV
namespace MV
open PySem PySem.Spec PyProof.Rows L2
section
variable {cf : Cf} {R : Rs} {Hs H : Hp} {env : PEnv} {σ : L2.St} {F : Nat → List Addr} {wf : List Addr} {i : Nat} {p : Addr} {kvs : List (Key × D)} {kvs' : List (Key × V)}
end
def eLock (i : Nat) (f : M D) : M D := fun e => match e[i]? with
  | some (some (.dic kvs)) => if (kvs.map (·.2)).all D.sc then (match f e with
    | .ok d e' => .ok d e'
    | _ => .stuck) else .stuck
  | _ => .stuck
section
variable {X : Cx} {cf : Cf} {W : WX} {a : Expr} {ta : TE} {fa : M D} {n : Bool} {i : Nat}
@[simp] theorem r_eLock {e : PEnv} {kvs : List (Key × D)} (h : e[i]? = some (some (.dic kvs))) (hs : (kvs.map (·.2)).all D.sc = true) {d : D} {e' : PEnv} (hf : fa e = .ok d e') : eLock i fa e = .ok d e' := by
  unfold eLock
  simp only [h, hs, hf, if_true]
end
end MV
namespace MV
open PySem PySem.Spec PyProof.Rows L2
def gIsB : D → D → Option D
  | .bl a, .bl b => some (.bl (decide (a = b)))
  | _, _ => none
def gNotB : D → D → Option D
  | .bl a, .bl b => some (.bl (!decide (a = b)))
  | _, _ => none
@[simp] theorem gIsB_b {a b : Bool} : gIsB (.bl a) (.bl b) = some (.bl (decide (a = b))) := (rfl)
@[simp] theorem gNotB_b {a b : Bool} : gNotB (.bl a) (.bl b) = some (.bl (!decide (a = b))) := (rfl)
section
variable {X : Cx} {cf : Cf} {W : WX} {c c' : Cls} {n n1 n2 : Bool} {a b : Expr} {ta tb : TE} {fa fb : M D} {pos : Pos}
end
def okR3 (i j c : Int) : Bool := decide (c ≠ 0) && decide (c.natAbs < 1073741824) && Builtin.Range.small i j c && decide ((Builtin.Range.rangeSize i j c).toNat ≤ LIM)
def gLR3 : List D → Option D
  | [.int i, .int j, .int c] => if okR3 i j c then some (.lst (rngC i c (Builtin.Range.rangeSize i j c).toNat)) else none
  | _ => none
@[simp] theorem gLR3_i {i j c : Int} : gLR3 [.int i, .int j, .int c] = if okR3 i j c then some (.lst (rngC i c (Builtin.Range.rangeSize i j c).toNat)) else none := (rfl)
section
variable {X : Cx} {cf : Cf} {W : WX} {c : Cls} {n : Bool}
end
end MV
namespace MV
open PySem PySem.Spec PyProof.Rows L2
section
variable {X : Cx} {cf : Cf} {W : WX}
end
end MV
namespace MV
open PySem L2
def fgR (i : Nat) : Res Fl → Res Fl
  | .ok f e => .ok f (e.set i none)
  | .ex c e => .ex c (e.set i none)
  | .stuck => .stuck
def sSeal (i : Nat) (g : M Fl) : M Fl := fun e => fgR i (g e)
section
variable {cf : Cf} {R : Rs} {Hs H H' : Hp} {env : PEnv} {σ : L2.St} {F : Nat → List Addr} {wf : List Addr} {i : Nat}
end
section
variable {X : Cx} {cf : Cf} {W : WX}
end
@[simp] theorem r_sSeal {i : Nat} {g : M Fl} {e : PEnv} : sSeal i g e = fgR i (g e) := rfl
@[simp] theorem fgR_ok {i : Nat} {f : Fl} {e : PEnv} : fgR i (.ok f e) = .ok f (e.set i none) := rfl
@[simp] theorem fgR_ex {i : Nat} {c : Str} {e : PEnv} : fgR i (.ex c e) = .ex c (e.set i none) := rfl
end MV
namespace MV
open PySem L2
open PySem.W (alike alikeAll dataLt minD AlikeAll AllAlike Sortable dataLe EachIs)
section
variable {X : Cx} {cf : Cf} {W : WX} {c : Cls}
end
end MV
namespace MV
open PySem PySem.Spec PyProof.Rows L2
section
variable {X : Cx} {cf : Cf} {W : WX} {c : Cls} {n n1 n2 : Bool}
end
@[simp] theorem tyD_s {z : Str} : tyD (.str z) = "str" := (rfl)
end MV
namespace Ov
open PySem MV
def B_need_signs : M Fl := (sIf (tB (e2 gNe (eLc [1] (iL (eV 0)) (tgN 1) (tOr2 (tB (e2 gNe (eN gLen (aCons (eV 1) aNil)) (eC (.int 1)))) (tB (e2 gNotIn (eV 1) (eC (.str (Str.ofString "abcdefghijklmnopqrstuvwxyz")))))) (eV 1)) (eN gLst aNil))) (sRaise (Str.ofString "NoSign")) sSkip)
def F_need_signs : List D → FR := runF 2 B_need_signs
def B__law_take : M Fl := (sSeq (sIf (tB (e2 gGt (eIxW 0 (eC (.int 0))) (eC (.int 0)))) (sSeq (sSet 2 (e2 gMod (eIxW 0 (eC (.int 0))) (eV 1)))
  (sSeq (sPutW 0 (e2 gFdiv (eIxW 0 (eC (.int 0))) (eV 1)) (eC (.int 0)))
  (sRet (eV 2)))) sSkip)
  (sSeq (sPutW 0 (e2 gMod (e2 gMul (eIxW 0 (eC (.int 1))) (eC (.int 48271))) (eC (.int 2147483647))) (eC (.int 1)))
  (sRet (e2 gMod (e2 gFdiv (e2 gPow (e2 gAdd (eIxW 0 (eC (.int 1))) (eC (.int 1))) (eC (.int 7))) (eC (.int 8))) (eV 1)))))
def F__law_take : List D → FR := runF 3 B__law_take
def B__law_wholes : M Fl := (sSeq (sIf (tOr2 (tNot1 (tB (eIsi "list" (eV 0)))) (tB (e2 gNe (eV 0) (eV 1)))) (sRet (eC (.bl false))) sSkip)
  (sRet (e2 gEq (eLc [2] (iL (eV 0)) (tgN 2) (tOr2 (tNot1 (tB (eIsi "int" (eV 2)))) (tB (eIsi "bool" (eV 2)))) (eV 2)) (eN gLst aNil))))
def F__law_wholes : List D → FR := runF 3 B__law_wholes
def B__law_letters_l1 : M Fl := (sSeq (sSet 4 (eCallW F__law_take 0 (aCons (eN gLen (aCons (eV 1) aNil)) aNil)))
  (sSeq (sSet 2 (eF (e2 gAdd (eV 2) (e2 gIx (eV 1) (eV 4)))))
  (sSet 1 (e2 gAdd (eSl (eV 1) oNone (oSome (eV 4))) (eSl (eV 1) (oSome (e2 gAdd (eV 4) (eC (.int 1)))) oNone)))))
def B__law_letters : M Fl := (sSeq (sSet 1 (eC (.str (Str.ofString "abcdefghijklmnopqrstuvwxyz"))))
  (sSeq (sSet 2 (eC (.str (Str.ofString ""))))
  (sSeq (sFor (iN gR1 (aCons (e2 gIx (eN gLst (aCons (eC (.int 2)) (aCons (eC (.int 3)) (aCons (eC (.int 5)) (aCons (eC (.int 26)) aNil))))) (eCallW F__law_take 0 (aCons (eC (.int 4)) aNil))) aNil)) (tgN 3) B__law_letters_l1)
  (sRet (eV 2)))))
def F__law_letters : List D → FR := runF 5 B__law_letters
def B__law_signs : M Fl := (sRet (eF (eLc [3] (iN gR1 (aCons (eV 2) aNil)) (tgN 3) tTrue (e2 gIx (eV 1) (eCallW F__law_take 0 (aCons (eN gLen (aCons (eV 1) aNil)) aNil))))))
def F__law_signs : List D → FR := runF 4 B__law_signs
def B_need_word : M Fl := (sIf (tB (e2 gEq (eV 0) (eN gLst aNil))) (sRaise (Str.ofString "NoWord")) sSkip)
def F_need_word : List D → FR := runF 1 B_need_word
def B_laid_at : M Fl := (sSeq (sSet 2 (eN gLen (aCons (eV 1) aNil)))
  (sRet (eF (eLc [3] (iN gR1 (aCons (e2 gAdd (e2 gSub (eN gLen (aCons (eV 0) aNil)) (eV 2)) (eC (.int 1))) aNil)) (tgN 3) (tB (e2 gEq (eSl (eV 0) (oSome (eV 3)) (oSome (e2 gAdd (eV 3) (eV 2)))) (eV 1))) (eV 3)))))
def F_laid_at : List D → FR := runF 4 B_laid_at
def B__law_lies_l1 : M Fl := (sIf (tB (e2 gEq (eLc [4] (iN gR1 (aCons (eN gLen (aCons (eV 1) aNil)) aNil)) (tgN 4) (tB (e2 gNe (e2 gIx (eV 0) (e2 gAdd (eV 3) (eV 4))) (e2 gIx (eV 1) (eV 4)))) (eV 4)) (eN gLst aNil))) (sApp 2 (eS (eV 3))) sSkip)
def B__law_lies : M Fl := (sSeq (sSetM 2 (eN gLst aNil))
  (sSeq (sFor (iN gR1 (aCons (e2 gAdd (e2 gSub (eN gLen (aCons (eV 0) aNil)) (eN gLen (aCons (eV 1) aNil))) (eC (.int 1))) aNil)) (tgN 3) B__law_lies_l1)
  (sRet (eV 2))))
def F__law_lies : List D → FR := runF 5 B__law_lies
def B_lies_at : M Fl := (sSeq (sDrop (eCall F_need_word (aCons (eV 1) aNil)))
  (sSeq (sDrop (eCall F_need_signs (aCons (e2 gAdd (eV 0) (eV 1)) aNil)))
  (sRet (eCall F_laid_at (aCons (eV 0) (aCons (eV 1) aNil))))))
def F_lies_at : List D → FR := runF 2 B_lies_at
def B__law_word : M Fl := (sSeq (sSet 3 (eCallW F__law_take 0 (aCons (eC (.int 4)) aNil)))
  (sSeq (sSet 4 (e2 gAdd (eC (.int 1)) (eCallW F__law_take 0 (aCons (eN gMax2 (aCons (eC (.int 1)) (aCons (eN gLen (aCons (eV 2) aNil)) aNil))) aNil))))
  (sSeq (sSet 5 (eCallW F__law_take 0 (aCons (eN gMax2 (aCons (eC (.int 1)) (aCons (eN gLen (aCons (eV 2) aNil)) aNil))) aNil)))
  (sSeq (sSetM 6 (e2 gIx (eN gLst (aCons (eF (eSl (eV 2) oNone (oSome (eV 4)))) (aCons (eF (eSl (eV 2) (oSome (eV 5)) (oSome (e2 gAdd (eV 5) (eV 4))))) (aCons (eN gLst aNil) (aCons (eF (eSl (eV 2) oNone (oSome (e2 gAdd (eC (.int 1)) (e2 gMod (eV 4) (eC (.int 7))))))) aNil))))) (eS (eV 3))))
  (sSeq (sIf (tB (e2 gEq (eV 6) (eN gLst aNil))) (sSetM 6 (eCallW F__law_signs 0 (aCons (eV 1) (aCons (e2 gAdd (eC (.int 1)) (eCallW F__law_take 0 (aCons (eC (.int 6)) aNil))) aNil)))) sSkip)
  (sSeq (sIf (tB (e2 gEq (eCallW F__law_take 0 (aCons (eC (.int 8)) aNil)) (eC (.int 1)))) (sSeq (sSetM 6 (eF (eN gList1 (aCons (eV 6) aNil))))
  (sPut 6 (eS (e2 gIx (eV 1) (eCallW F__law_take 0 (aCons (eN gLen (aCons (eV 1) aNil)) aNil)))) (eCallW F__law_take 0 (aCons (eN gLen (aCons (eV 6) aNil)) aNil)))) sSkip)
  (sRet (eV 6))))))))
def F__law_word : List D → FR := runF 7 B__law_word
def B__law_right_l1 : M Fl := (sSeq (sSetM 5 (eCall F_lies_at (aCons (e2 gIx (eV 3) (eC (.int 0))) (aCons (e2 gIx (eV 3) (eC (.int 1))) aNil))))
  (sSeq (sIf (tOr2 (tNot1 (tB (eCall F__law_wholes (aCons (eV 5) (aCons (eV 2) aNil))))) (tB (e2 gNe (eV 3) (eN gTupD (aCons (eV 0) (aCons (eV 1) aNil)))))) (sRet (eC (.bl false))) sSkip)
  (sApp 5 (eC (.int 0)))))
def B__law_right : M Fl := (sSeq (sSet 2 (eCall F__law_lies (aCons (eV 0) (aCons (eV 1) aNil))))
  (sSeq (sSet 3 (eN gTupD (aCons (eN gList1 (aCons (eV 0) aNil)) (aCons (eN gList1 (aCons (eV 1) aNil)) aNil))))
  (sSeq (sFor (iN gR1 (aCons (eC (.int 2)) aNil)) (tgN 4) B__law_right_l1)
  (sRet (eC (.bl true))))))
def F__law_right : List D → FR := runF 6 B__law_right
def B_need_text : M Fl := (sIf (tB (e2 gEq (eV 0) (eN gLst aNil))) (sRaise (Str.ofString "NoText")) sSkip)
def F_need_text : List D → FR := runF 1 B_need_text
def B_need_both : M Fl := (sSeq (sDrop (eCall F_need_word (aCons (eV 1) aNil)))
  (sSeq (sDrop (eCall F_need_signs (aCons (e2 gAdd (eV 0) (eV 1)) aNil)))
  (sDrop (eCall F_need_text (aCons (eV 0) aNil)))))
def F_need_both : List D → FR := runF 2 B_need_both
def B__law_due_l1 : M Fl := (sIf (tAnd2 (tB (e2 gLe (eV 4) (eV 3))) (tB (e2 gEq (eSl (eV 0) (oSome (eV 4)) (oSome (e2 gAdd (eV 4) (eV 2)))) (eSl (eV 0) oNone (oSome (eV 2)))))) (sSet 3 (e2 gAdd (eV 4) (eV 2))) sSkip)
def B__law_due_l2 : M Fl := (sSeq (sSet 3 (eC (.int 0)))
  (sSeq (sFor (iN gR1 (aCons (e2 gAdd (e2 gSub (eN gLen (aCons (eV 0) aNil)) (eV 2)) (eC (.int 1))) aNil)) (tgN 4) B__law_due_l1)
  (sIf (tB (e2 gEq (eV 3) (eN gLen (aCons (eV 0) aNil)))) (sApp 1 (eS (eV 2))) sSkip)))
def B__law_due : M Fl := (sSeq (sSetM 1 (eN gLst aNil))
  (sSeq (sFor (iN gR2 (aCons (eC (.int 1)) (aCons (e2 gAdd (eN gLen (aCons (eV 0) aNil)) (eC (.int 1))) aNil))) (tgN 2) B__law_due_l2)
  (sRet (eV 1))))
def F__law_due : List D → FR := runF 5 B__law_due
def B_hung_ahead_l1 : M Fl := (sIf (tB (e2 gEq (eSl (eV 1) (oSome (e2 gSub (eN gLen (aCons (eV 1) aNil)) (eV 2))) oNone) (eSl (eV 0) oNone (oSome (eV 2))))) (sRet (eS (eV 2))) sSkip)
def B_hung_ahead : M Fl := (sSeq (sFor (iN gR3 (aCons (eN gMin2 (aCons (eN gLen (aCons (eV 0) aNil)) (aCons (e2 gSub (eN gLen (aCons (eV 1) aNil)) (eC (.int 1))) aNil))) (aCons (eC (.int 0)) (aCons (e1 gNeg (eC (.int 1))) aNil)))) (tgN 2) B_hung_ahead_l1)
  (sRet (eC (.int 0))))
def F_hung_ahead : List D → FR := runF 3 B_hung_ahead
def B_hung_behind_l1 : M Fl := (sIf (tB (e2 gEq (eSl (eV 1) oNone (oSome (eV 2))) (eSl (eV 0) (oSome (e2 gSub (eN gLen (aCons (eV 0) aNil)) (eV 2))) oNone))) (sRet (eS (eV 2))) sSkip)
def B_hung_behind : M Fl := (sSeq (sFor (iN gR3 (aCons (eN gMin2 (aCons (eN gLen (aCons (eV 0) aNil)) (aCons (e2 gSub (eN gLen (aCons (eV 1) aNil)) (eC (.int 1))) aNil))) (aCons (eC (.int 0)) (aCons (e1 gNeg (eC (.int 1))) aNil)))) (tgN 2) B_hung_behind_l1)
  (sRet (eC (.int 0))))
def F_hung_behind : List D → FR := runF 3 B_hung_behind
def B__law_cell_at : M Fl := (sSeq (sIf (tB (e2 gLt (eV 1) (eLenQ 0))) (sRet (eIxQ 0 (eV 1))) sSkip)
  (sRet (eC (.int 0))))
def F__law_cell_at : List D → FR := runF 2 B__law_cell_at
def B__law_deck : M Fl := (sRet (eN gLst (aCons (eN gMax2 (aCons (eC (.int 0)) (aCons (e2 gSub (eV 0) (e2 gPow (eC (.int 10)) (eC (.int 18)))) aNil))) (aCons (e2 gMod (eV 0) (eC (.int 2147483629))) (aCons (eC (.int 0)) aNil)))))
def F__law_deck : List D → FR := runF 1 B__law_deck
def B__law_take_v3 : M Fl := (sSeq (sPutW 0 (e2 gAdd (eIxW 0 (eC (.int 2))) (eC (.int 1))) (eC (.int 2)))
  (sSeq (sIf (tB (e2 gGt (eIxW 0 (eC (.int 0))) (eC (.int 0)))) (sSeq (sSet 3 (e2 gMod (eIxW 0 (eC (.int 0))) (eC (.int 65536))))
  (sSeq (sPutW 0 (e2 gFdiv (eIxW 0 (eC (.int 0))) (eC (.int 65536))) (eC (.int 0)))
  (sRet (e2 gMod (eV 3) (eV 1))))) sSkip)
  (sSeq (sSet 2 (e2 gMod (e2 gMul (e2 gAdd (eIxW 0 (eC (.int 1))) (e2 gMul (eC (.int 7919)) (eIxW 0 (eC (.int 2))))) (eC (.int 48271))) (eC (.int 2147483647))))
  (sSeq (sSet 2 (e2 gMod (e2 gMul (eV 2) (eV 2)) (eC (.int 2147483629))))
  (sRet (e2 gMod (e2 gFdiv (e2 gMod (e2 gMul (e2 gAdd (eV 2) (e2 gMul (eC (.int 40692)) (eIxW 0 (eC (.int 2))))) (eC (.int 69621))) (eC (.int 2147483563))) (eC (.int 8))) (eV 1)))))))
def F__law_take_v3 : List D → FR := runF 4 B__law_take_v3
def B__law_is_covered_l1 : M Fl := (sIf (tAnd2 (tB (e2 gLe (eV 3) (eV 2))) (tB (e2 gEq (eSl (eV 0) (oSome (eV 3)) (oSome (e2 gAdd (eV 3) (eN gLen (aCons (eV 1) aNil))))) (eV 1)))) (sSet 2 (e2 gAdd (eV 3) (eN gLen (aCons (eV 1) aNil)))) sSkip)
def B__law_is_covered : M Fl := (sSeq (sSet 2 (eC (.int 0)))
  (sSeq (sFor (iN gR1 (aCons (e2 gAdd (e2 gSub (eN gLen (aCons (eV 0) aNil)) (eN gLen (aCons (eV 1) aNil))) (eC (.int 1))) aNil)) (tgN 3) B__law_is_covered_l1)
  (sRet (e2 gGe (eV 2) (eN gLen (aCons (eV 0) aNil))))))
def F__law_is_covered : List D → FR := runF 4 B__law_is_covered
def B__law_rest_l1 : M Fl := (sSeq (sSet 7 (eSl (eV 1) (oSome (eV 5)) oNone))
  (sSeq (sIf (tAnd2 (tB (e2 gGt (eN gLen (aCons (eV 7) aNil)) (eN gLen (aCons (eV 0) aNil)))) (tNot1 (tTr (eV 3)))) (sSet 7 (eN gLst aNil)) sSkip)
  (sIf (tB (e2 gEq (eSl (eV 7) oNone (oSome (eN gLen (aCons (eV 0) aNil)))) (eSl (eV 0) oNone (oSome (eN gLen (aCons (eV 7) aNil)))))) (sSet 4 (eN gMax2 (aCons (eV 4) (aCons (eN gLen (aCons (eV 7) aNil)) aNil)))) sSkip)))
def B__law_rest_l2 : M Fl := (sSeq (sSet 7 (eSl (eV 0) (oSome (eV 6)) (oSome (e2 gAdd (eV 6) (eN gLen (aCons (eV 1) aNil))))))
  (sSeq (sSet 8 (eAndV (e2 gLe (eV 6) (eV 4)) (e2 gEq (eV 7) (eSl (eV 1) oNone (oSome (eN gLen (aCons (eV 7) aNil)))))))
  (sIf (tAnd2 (tTr (eV 8)) (tOr2 (tTr (eV 3)) (tB (e2 gEq (eN gLen (aCons (eV 7) aNil)) (eN gLen (aCons (eV 1) aNil)))))) (sSet 4 (e2 gAdd (eV 6) (eN gLen (aCons (eV 1) aNil)))) sSkip)))
def B__law_rest : M Fl := (sSeq (sSet 4 (eC (.int 0)))
  (sSeq (sFor (iN gR2 (aCons (eC (.int 1)) (aCons (e2 gAdd (eC (.int 1)) (e2 gMul (e2 gSub (eN gLen (aCons (eV 1) aNil)) (eC (.int 1))) (eN gInt1 (aCons (eV 2) aNil)))) aNil))) (tgN 5) B__law_rest_l1)
  (sSeq (sFor (iN gR1 (aCons (eN gLen (aCons (eV 0) aNil)) aNil)) (tgN 6) B__law_rest_l2)
  (sRet (e2 gGe (eV 4) (eN gLen (aCons (eV 0) aNil)))))))
def F__law_rest : List D → FR := runF 9 B__law_rest
def B_covers_amid_l1 : M Fl := (sIf (tB (e2 gLe (eV 5) (eV 4))) (sSet 4 (eN gMax2 (aCons (eV 4) (aCons (e2 gAdd (eV 5) (eN gLen (aCons (eV 1) aNil))) aNil)))) sSkip)
def B_covers_amid : M Fl := (sSeq (sSet 4 (eV 2))
  (sSeq (sFor (iL (eCall F_laid_at (aCons (eV 0) (aCons (eV 1) aNil)))) (tgN 5) B_covers_amid_l1)
  (sRet (e2 gGe (eV 4) (eV 3)))))
def F_covers_amid : List D → FR := runF 6 B_covers_amid
def B__law_letters_v3 : M Fl := (sSeq (sSet 1 (eC (.str (Str.ofString "abcdefghijklmnopqrstuvwxyz"))))
  (sSeq (sSet 2 (eCallW F__law_take_v3 0 (aCons (eC (.int 26)) aNil)))
  (sSeq (sSet 3 (e2 gIx (eN gLst (aCons (eC (.int 1)) (aCons (eC (.int 3)) (aCons (eC (.int 5)) (aCons (eC (.int 7)) (aCons (eC (.int 9)) (aCons (eC (.int 11)) (aCons (eC (.int 15)) (aCons (eC (.int 17)) (aCons (eC (.int 19)) (aCons (eC (.int 21)) (aCons (eC (.int 23)) (aCons (eC (.int 25)) aNil))))))))))))) (eCallW F__law_take_v3 0 (aCons (eC (.int 12)) aNil))))
  (sSeq (sSet 4 (e2 gIx (eN gLst (aCons (eC (.int 2)) (aCons (eC (.int 2)) (aCons (eC (.int 3)) (aCons (eC (.int 26)) (aCons (eC (.int 26)) (aCons (eC (.int 1)) aNil))))))) (eCallW F__law_take_v3 0 (aCons (eC (.int 6)) aNil))))
  (sRet (eF (eLc [5] (iN gR1 (aCons (eV 4) aNil)) (tgN 5) tTrue (e2 gIx (eV 1) (e2 gMod (e2 gAdd (eV 2) (e2 gMul (eV 3) (eV 5))) (eC (.int 26)))))))))))
def F__law_letters_v3 : List D → FR := runF 6 B__law_letters_v3
def B__law_signs_v3 : M Fl := (sRet (eF (eLc [3] (iN gR1 (aCons (eV 2) aNil)) (tgN 3) tTrue (e2 gIx (eV 1) (eCallW F__law_take_v3 0 (aCons (eN gLen (aCons (eV 1) aNil)) aNil))))))
def F__law_signs_v3 : List D → FR := runF 4 B__law_signs_v3
def B__law_by_trial_l1 : M Fl := (sSeq (sSet 6 (eSl (eV 1) (oSome (e2 gSub (eN gLen (aCons (eV 1) aNil)) (eV 5))) oNone))
  (sIf (tB (eCall F__law_is_covered (aCons (e2 gAdd (e2 gAdd (eSl (eV 1) oNone (oSome (eV 4))) (eV 0)) (eV 6)) (aCons (eV 1) aNil)))) (sRet (eC (.bl true))) sSkip))
def B__law_by_trial_l2 : M Fl := (sFor (iN gR1 (aCons (e2 gAdd (eC (.int 1)) (e2 gMul (e2 gSub (eN gLen (aCons (eV 1) aNil)) (eC (.int 1))) (eN gInt1 (aCons (eV 3) aNil)))) aNil)) (tgN 5) B__law_by_trial_l1)
def B__law_by_trial : M Fl := (sSeq (sFor (iN gR1 (aCons (e2 gAdd (eC (.int 1)) (e2 gMul (e2 gSub (eN gLen (aCons (eV 1) aNil)) (eC (.int 1))) (eN gInt1 (aCons (eV 2) aNil)))) aNil)) (tgN 4) B__law_by_trial_l2)
  (sRet (eC (.bl false))))
def F__law_by_trial : List D → FR := runF 7 B__law_by_trial
def B_rest_behind : M Fl := (sSeq (sDrop (eCall F_need_both (aCons (eV 0) (aCons (eV 1) aNil))))
  (sRet (eCall F_covers_amid (aCons (eV 0) (aCons (eV 1) (aCons (eC (.int 0)) (aCons (e2 gSub (eN gLen (aCons (eV 0) aNil)) (eCall F_hung_behind (aCons (eV 0) (aCons (eV 1) aNil)))) aNil)))))))
def F_rest_behind : List D → FR := runF 2 B_rest_behind
def B_rest_ahead : M Fl := (sSeq (sDrop (eCall F_need_both (aCons (eV 0) (aCons (eV 1) aNil))))
  (sRet (eCall F_covers_amid (aCons (eV 0) (aCons (eV 1) (aCons (eCall F_hung_ahead (aCons (eV 0) (aCons (eV 1) aNil))) (aCons (eN gLen (aCons (eV 0) aNil)) aNil)))))))
def F_rest_ahead : List D → FR := runF 2 B_rest_ahead
def B__law_word_v4 : M Fl := (sSeq (sSet 3 (eCallW F__law_take_v3 0 (aCons (eC (.int 4)) aNil)))
  (sSeq (sSet 4 (eCallW F__law_signs_v3 0 (aCons (eV 1) (aCons (e2 gAdd (eC (.int 1)) (eCallW F__law_take_v3 0 (aCons (eV 2) aNil))) aNil))))
  (sSeq (sIf (tB (e2 gEq (eV 3) (eC (.int 1)))) (sSet 4 (e2 gAdd (e2 gAdd (eV 4) (eCallW F__law_signs_v3 0 (aCons (eV 1) (aCons (eCallW F__law_take_v3 0 (aCons (eC (.int 3)) aNil)) aNil)))) (eV 4))) sSkip)
  (sSeq (sIf (tB (e2 gEq (eV 3) (eC (.int 2)))) (sSet 4 (e2 gAdd (e2 gMul (eV 4) (e2 gAdd (eC (.int 1)) (eCallW F__law_take_v3 0 (aCons (eC (.int 3)) aNil)))) (eSl (eV 4) oNone (oSome (eCallW F__law_take_v3 0 (aCons (e2 gAdd (eN gLen (aCons (eV 4) aNil)) (eC (.int 1))) aNil)))))) sSkip)
  (sRet (eV 4))))))
def F__law_word_v4 : List D → FR := runF 5 B__law_word_v4
def B__law_overlaid_v2_l1 : M Fl := (sSeq (sSet 6 (eLc [8] (iN gR1 (aCons (eN gLen (aCons (eV 2) aNil)) aNil)) (tgN 8) (tOr2 (tB (e2 gEq (eV 8) (eC (.int 0)))) (tB (e2 gEq (eSl (eV 4) (oSome (e2 gSub (eN gLen (aCons (eV 4) aNil)) (eV 8))) oNone) (eSl (eV 2) oNone (oSome (eV 8)))))) (eV 8)))
  (sSeq (sSet 7 (e2 gIx (eV 6) (eCallW F__law_take_v3 0 (aCons (eN gLen (aCons (eV 6) aNil)) aNil))))
  (sSeq (sIf (tB (e2 gEq (eCallW F__law_take_v3 0 (aCons (eC (.int 8)) aNil)) (eC (.int 0)))) (sSeq (sSet 4 (e2 gAdd (eV 4) (eCallW F__law_signs_v3 0 (aCons (eV 1) (aCons (eC (.int 1)) aNil)))))
  (sSet 7 (eC (.int 0)))) sSkip)
  (sSet 4 (eF (e2 gAdd (eV 4) (eSl (eV 2) (oSome (eV 7)) oNone)))))))
def B__law_overlaid_v2 : M Fl := (sSeq (sSet 4 (eF (eN gList1 (aCons (eV 2) aNil))))
  (sSeq (sFor (iN gR1 (aCons (eV 3) aNil)) (tgN 5) B__law_overlaid_v2_l1)
  (sRet (eV 4))))
def F__law_overlaid_v2 : List D → FR := runF 9 B__law_overlaid_v2
def B__law_bent : M Fl := (sSeq (sSet 3 (eCallW F__law_take_v3 0 (aCons (e2 gAdd (eN gLen (aCons (eV 2) aNil)) (eC (.int 1))) aNil)))
  (sSeq (sSet 4 (eCallW F__law_take_v3 0 (aCons (eC (.int 3)) aNil)))
  (sSeq (sIf (tB (e2 gEq (eV 4) (eC (.int 0)))) (sRet (eF (e2 gAdd (eSl (eV 2) oNone (oSome (eV 3))) (eSl (eV 2) (oSome (e2 gAdd (eV 3) (eC (.int 1)))) oNone)))) sSkip)
  (sRet (eF (e2 gAdd (e2 gAdd (eSl (eV 2) oNone (oSome (eV 3))) (eCallW F__law_signs_v3 0 (aCons (eV 1) (aCons (eC (.int 1)) aNil)))) (eSl (eV 2) (oSome (e2 gSub (e2 gAdd (eV 3) (eC (.int 2))) (eV 4))) oNone)))))))
def F__law_bent : List D → FR := runF 5 B__law_bent
def T__law_pair_l1 : M Bool := (tB (e2 gLt (eN gLen (aCons (eV 4) aNil)) (eC (.int 200))))
def B__law_pair_l2 : M Fl := (sSet 4 (e2 gAdd (eV 4) (eV 4)))
def B__law_pair : M Fl := (sSeq (sSet 2 (eCallW F__law_letters_v3 0 aNil))
  (sSeq (sSet 3 (eCallW F__law_word_v4 0 (aCons (eV 2) (aCons (e2 gIx (eN gLst (aCons (eC (.int 3)) (aCons (eC (.int 6)) (aCons (eC (.int 12)) aNil)))) (eCallW F__law_take_v3 0 (aCons (eC (.int 3)) aNil))) aNil))))
  (sSeq (sSet 4 (eCallW F__law_overlaid_v2 0 (aCons (eV 2) (aCons (eV 3) (aCons (eCallW F__law_take_v3 0 (aCons (eC (.int 5)) aNil)) aNil)))))
  (sSeq (sIf (tAnd2 (tTr (eV 1)) (tB (e2 gEq (eCallW F__law_take_v3 0 (aCons (eC (.int 16)) aNil)) (eC (.int 3))))) (sSeq (sSet 4 (eCallW F__law_overlaid_v2 0 (aCons (eV 2) (aCons (eV 3) (aCons (eC (.int 20)) aNil)))))
  (sWhile T__law_pair_l1 B__law_pair_l2 WFUEL)) sSkip)
  (sSeq (sSet 5 (eCallW F__law_take_v3 0 (aCons (e2 gIx (eN gLst (aCons (eC (.int 1)) (aCons (e2 gAdd (eN gLen (aCons (eV 3) aNil)) (eC (.int 1))) aNil))) (eCallW F__law_take_v3 0 (aCons (eC (.int 2)) aNil))) aNil)))
  (sSeq (sSet 6 (eCallW F__law_take_v3 0 (aCons (e2 gIx (eN gLst (aCons (eC (.int 1)) (aCons (e2 gAdd (eN gLen (aCons (eV 3) aNil)) (eC (.int 1))) aNil))) (eCallW F__law_take_v3 0 (aCons (eC (.int 2)) aNil))) aNil)))
  (sSeq (sSet 4 (eSl (eSl (eV 4) (oSome (eV 5)) oNone) oNone (oSome (eC (.int 200)))))
  (sSeq (sSet 4 (eSl (eV 4) oNone (oSome (e2 gSub (eN gLen (aCons (eV 4) aNil)) (eN gMin2 (aCons (eV 6) (aCons (eN gLen (aCons (eV 4) aNil)) aNil)))))))
  (sSeq (sIf (tB (e2 gEq (eCallW F__law_take_v3 0 (aCons (eC (.int 4)) aNil)) (eC (.int 0)))) (sSet 4 (eSl (eCallW F__law_bent 0 (aCons (eV 2) (aCons (eV 4) aNil))) oNone (oSome (eC (.int 200))))) sSkip)
  (sSeq (sIf (tB (e2 gEq (eCallW F__law_take_v3 0 (aCons (eC (.int 6)) aNil)) (eC (.int 0)))) (sSet 3 (eCallW F__law_bent 0 (aCons (eV 2) (aCons (eV 3) aNil)))) sSkip)
  (sRet (eN gTupD (aCons (eOrT (eV 4) (eSl (eV 2) oNone (oSome (eC (.int 1))))) (aCons (eOrT (eV 3) (eSl (eV 2) oNone (oSome (eC (.int 1))))) aNil))))))))))))))
def F__law_pair : List D → FR := runF 7 B__law_pair
def B_beginnings_with_rest : M Fl := (sSeq (sDrop (eCall F_need_signs (aCons (eV 0) aNil)))
  (sSeq (sDrop (eCall F_need_text (aCons (eV 0) aNil)))
  (sRet (eF (eLc [1] (iN gR2 (aCons (eC (.int 1)) (aCons (e2 gAdd (eN gLen (aCons (eV 0) aNil)) (eC (.int 1))) aNil))) (tgN 1) (tB (eCall F_rest_behind (aCons (eV 0) (aCons (eSl (eV 0) oNone (oSome (eV 1))) aNil)))) (eV 1))))))
def F_beginnings_with_rest : List D → FR := runF 2 B_beginnings_with_rest
def B_ends_with_rest : M Fl := (sSeq (sDrop (eCall F_need_signs (aCons (eV 0) aNil)))
  (sSeq (sDrop (eCall F_need_text (aCons (eV 0) aNil)))
  (sRet (eF (eLc [1] (iN gR2 (aCons (eC (.int 1)) (aCons (e2 gAdd (eN gLen (aCons (eV 0) aNil)) (eC (.int 1))) aNil))) (tgN 1) (tB (eCall F_rest_ahead (aCons (eV 0) (aCons (eSl (eV 0) (oSome (e2 gSub (eN gLen (aCons (eV 0) aNil)) (eV 1))) oNone) aNil)))) (eV 1))))))
def F_ends_with_rest : List D → FR := runF 2 B_ends_with_rest
def B__law_stir : M Fl := (sSeq (sSet 2 (e2 gAdd (e2 gAdd (e2 gMod (eV 0) (e2 gPow (eC (.int 10)) (eC (.int 60)))) (e2 gMul (eC (.int 3)) (eV 1))) (eC (.int 1))))
  (sRet (e2 gMod (e2 gFdiv (e2 gMul (e2 gMul (eV 2) (e2 gAdd (eV 2) (e2 gMul (eC (.int 2)) (eV 1)))) (e2 gAdd (eV 2) (eC (.int 5)))) (eC (.int 7))) (e2 gPow (eC (.int 10)) (eC (.int 40))))))
def F__law_stir : List D → FR := runF 3 B__law_stir
def B__law_digit : M Fl := (sSeq (sIf (tB (e2 gGe (eV 0) (e2 gPow (eC (.int 10)) (eC (.int 18))))) (sRet (e2 gMod (e2 gMod (e2 gShr (eV 0) (e2 gMul (eC (.int 16)) (eV 1))) (eC (.int 65536))) (eV 2))) sSkip)
  (sRet (e2 gMod (eCall F__law_stir (aCons (eV 0) (aCons (eV 1) aNil))) (eV 2))))
def F__law_digit : List D → FR := runF 3 B__law_digit
def B__law_overlaid_l1 : M Fl := (sSet 5 (eF (e2 gAdd (eV 5) (eSl (eV 0) (oSome (e2 gSub (eN gLen (aCons (eV 0) aNil)) (e2 gIx (eV 4) (eCall F__law_digit (aCons (eV 1) (aCons (e2 gAdd (eV 2) (eV 6)) (aCons (eN gLen (aCons (eV 4) aNil)) aNil))))))) oNone))))
def B__law_overlaid : M Fl := (sSeq (sSet 4 (eLc [7] (iN gR2 (aCons (eC (.int 1)) (aCons (e2 gAdd (eN gLen (aCons (eV 0) aNil)) (eC (.int 1))) aNil))) (tgN 7) (tB (e2 gEq (eSl (eV 0) (oSome (eV 7)) oNone) (eSl (eV 0) oNone (oSome (e2 gSub (eN gLen (aCons (eV 0) aNil)) (eV 7)))))) (eV 7)))
  (sSeq (sSet 5 (eF (eN gList1 (aCons (eV 0) aNil))))
  (sSeq (sFor (iN gR1 (aCons (eV 3) aNil)) (tgN 6) B__law_overlaid_l1)
  (sRet (eV 5)))))
def F__law_overlaid : List D → FR := runF 8 B__law_overlaid
end Ov
namespace Ov
open PySem (Str)
open MV
def Lt (z : Str) (n : Nat) : Prop := z.cps.size = n ∧ ∀ c ∈ z.cps.toList, 97 ≤ c ∧ c ≤ 122
theorem lt_all : Lt (Str.ofString "abcdefghijklmnopqrstuvwxyz") 26 := ⟨by decide +kernel, by decide +kernel⟩
theorem Lt.len {z : Str} {n : Nat} (h : Lt z n) : z.length = n := h.1
theorem Lt.at {z : Str} {n r : Nat} (h : Lt z n) (hr : r < n) : ∃ c, L2.atI z.cps.toList (r : Int) = some c ∧ Sg ⟨#[c]⟩ := by
  rw [atI_eq]
  have hl : r < z.cps.toList.length := by rw [Array.length_toList, h.1]; exact hr
  rw [List.getElem?_eq_getElem hl]
  obtain ⟨h1, h2⟩ := h.2 _ (List.getElem_mem hl)
  exact ⟨_, rfl, _, rfl, h1, h2⟩
theorem cps_app (x y : Str) : (x ++ y).cps.toList = x.cps.toList ++ y.cps.toList := by
  show (x.cps ++ y.cps).toList = _
  simp
theorem Lt.app {z : Str} {n : Nat} (h : Lt z n) {c : Nat} (hc : Sg ⟨#[c]⟩) : Lt (z ++ ⟨#[c]⟩) (n + 1) := by
  obtain ⟨c', e, h1, h2⟩ := hc
  cases e
  refine ⟨?_, fun d hd => ?_⟩
  · rw [← Array.length_toList, cps_app, List.length_append, Array.length_toList, h.1]; rfl
  · rw [cps_app] at hd
    rcases List.mem_append.mp hd with hd | hd
    · exact h.2 d hd
    · have : d = c := by simpa using hd
      subst this; exact ⟨h1, h2⟩
end Ov
namespace Ov
open PySem (Str)
open MV
end Ov
namespace Ov
open PySem (Str)
open MV
end Ov
namespace Ov
open PySem (Str)
open MV
theorem sg_in {x : Str} (h : Sg x) : x.length = 1 ∧ gNotIn (.str x) (.str (Str.ofString "abcdefghijklmnopqrstuvwxyz")) = some (.bl false) := by
  obtain ⟨c, rfl, h1, h2⟩ := h
  refine ⟨rfl, ?_⟩
  have : ∀ c : Nat, 97 ≤ c → c ≤ 122 → c ∈ (Str.ofString "abcdefghijklmnopqrstuvwxyz").cps.toList := by
    have : ∀ k : Fin 26, (97 + k.val) ∈ (Str.ofString "abcdefghijklmnopqrstuvwxyz").cps.toList := by decide +kernel
    intro c h1 h2
    have := this ⟨c - 97, by omega⟩
    simpa [show 97 + (c - 97) = c by omega] using this
  have := this c h1 h2
  show (inOk _ _).map _ = _
  unfold inOk
  simp [this]
theorem need_signs_val {t : List Str} (ht : Tx t) (hl : t.length ≤ LIM) : F_need_signs [dT t] = .ok .non (dT t) := by
  have h1 := lc_pure (is := [1]) (tg := tgN 1) (t := tOr2 (tB (e2 gNe (eN gLen (aCons (eV 1) aNil)) (eC (.int 1)))) (tB (e2 gNotIn (eV 1) (eC (.str (Str.ofString "abcdefghijklmnopqrstuvwxyz")))))) (fe := eV 1) (e := [some (dT t), none]) (φ := D.str) (p := fun _ => false) (g := D.str) t [] (by simpa using hl)
    (fun x hx => ⟨_, [some (dT t), some (.str x)], rfl, by
      obtain ⟨q1, q2⟩ := sg_in (ht x hx)
      have l1 : (1 : Nat) ≤ LIM := by decide
      simp [q1, l1, q2], (fun h => by cases h), fun _ => rfl⟩)
  rw [filter_no] at h1
  simp only [F_need_signs, r_runF, B_need_signs]
  simp [h1, hsz0]
theorem need_word_val {w : List Str} (hw : Tx w) (h0 : w ≠ []) : F_need_word [dT w] = .ok .non (dT w) := by
  simp only [F_need_word, r_runF, B_need_word]
  simp [hsz0, gEq_nT hw.ok, h0]
def lies (t w : List Str) : List Nat := (List.range (t.length + 1 - w.length)).filter fun p => decide ((t.drop p).take w.length = w)
theorem lies_lt {t w : List Str} {p : Nat} (h : p ∈ lies t w) : p + w.length ≤ t.length := by
  unfold lies at h
  rw [List.mem_filter, List.mem_range] at h
  omega
theorem laid_at_val {t w : List Str} (ht : Tx t) (hw : Tx w) (hl : t.length ≤ 1000) (hl2 : w.length ≤ 1000) : F_laid_at [dT t, dT w] = .ok (dN (lies t w)) (dT t) := by
  have hs : smallI ((t.length : Int) - (w.length : Int) + 1) = true := small_of (by omega) (by omega)
  have h1 := lc_nat (is := [3]) (tg := tgN 3) (t := tB (e2 gEq (eSl (eV 0) (oSome (eV 3)) (oSome (e2 gAdd (eV 3) (eV 2)))) (eV 1))) (fe := eV 3) (e := [some (dT t), some (dT w), some (.int w.length), none]) (fun p => decide ((t.drop p).take w.length = w)) (fun k => .int (k : Int)) (List.range (t.length + 1 - w.length)) (by rw [List.length_range]; show _ ≤ 100000; omega)
    (fun k hk => by
      refine ⟨_, [some (dT t), some (dT w), some (.int w.length), some (.int k)], rfl, ?_, fun _ => ⟨_, rfl, rfl⟩, fun _ => rfl⟩
      have := gEq_dT ((ht.drop k).take w.length).ok hw.ok
      simp [cutA_map, cutA_mid2, this, -List.map_take, -List.map_drop])
  have e1 : ((t.length : Int) - (w.length : Int) + 1).toNat = t.length + 1 - w.length := by omega
  simp only [F_laid_at, r_runF, B_laid_at]
  simp [hs, rng0, e1, h1, lies]
end Ov
namespace Ov
open PySem (Str PyData)
open MV
end Ov
namespace Ov
open PySem (Str)
open MV
section
variable {α : Type} [DecidableEq α]
def isB (t : List α) (n k : Nat) : Prop := k < n ∧ n ≤ t.length ∧ ∀ j, j < k → t[j]? = t[n - k + j]?
def isG (t : List α) (n g : Nat) : Prop := isB t n g ∧ ∀ k, isB t n k → k ≤ g
variable {t : List α} {n k m g : Nat}
theorem isB_down (h : isB t n k) (h2 : isB t n m) (hl : m < k) : isB t k m := by
  obtain ⟨a1, a2, a3⟩ := h
  obtain ⟨b1, b2, b3⟩ := h2
  refine ⟨hl, by omega, fun j hj => ?_⟩
  rw [b3 j hj, a3 (k - m + j) (by omega)]
  congr 1; omega
end
end Ov
namespace Ov
open PySem (Str)
open MV
theorem dN_at {l : List Nat} {k : Nat} (h : k < l.length) : L2.atI (l.map fun k : Nat => D.int (k : Int)) (k : Int) = some (.int (l[k] : Nat)) := by
  rw [atI_eq, List.getElem?_map, List.getElem?_eq_getElem h]; rfl
def Gs (t : List Str) (G : List Nat) (i : Nat) : Prop := G.length = i ∧ ∀ m, m < i → ∃ g, G[m]? = some g ∧ isG t (m + 1) g
theorem Gs.at {t : List Str} {G : List Nat} {i m : Nat} (h : Gs t G i) (hm : m < i) : ∃ g : Nat, L2.atI (G.map fun k : Nat => D.int (k : Int)) (m : Int) = some (.int (g : Nat)) ∧ isG t (m + 1) g := by
  obtain ⟨g, g1, g2⟩ := h.2 m hm
  have hgl : m < G.length := by rw [h.1]; exact hm
  refine ⟨g, ?_, g2⟩
  rw [dN_at hgl]
  rw [List.getElem?_eq_getElem hgl] at g1; rw [Option.some.inj g1]
end Ov
namespace Ov
open PySem (Str PyData)
open MV
theorem for_cells {b : M Fl} {m : Nat} {q : D} (h : ∀ (c : Int) (xs : List (Option D)), xs.length = m → ∃ ys, ys.length = m ∧ b (some q :: some (.int c) :: xs) = .ok .nx (some q :: some (.int c) :: ys)) :
    ∀ (cs : List Int) (x1 : Option D) (xs : List (Option D)), xs.length = m → ∃ y1 ys, ys.length = m ∧ sForL (tgN 1) b (cs.map D.int) (some q :: x1 :: xs) = .ok .nx (some q :: y1 :: ys)
  | [], x1, xs, hx => ⟨x1, xs, hx, rfl⟩
  | c :: cs, x1, xs, hx => by
    obtain ⟨ys, h1, h2⟩ := h c xs hx
    obtain ⟨y1, zs, h3, h4⟩ := for_cells h cs (some (.int c)) ys h1
    refine ⟨y1, zs, h3, ?_⟩
    rw [List.map_cons, sForL, bnd_of_ok (r_tgN (i := 1)), List.set_cons_succ, List.set_cons_zero, bnd_of_ok h2]
    exact h4
def Gd (t : List Str) : Prop := ∀ x ∈ t, okS x ∧ x.length ≤ 100
theorem Gd.ok {t : List Str} (h : Gd t) : ∀ x ∈ t, okS x := fun x hx => (h x hx).1
theorem Gd.append {t u : List Str} (h : Gd t) (h2 : Gd u) : Gd (t ++ u) := fun x hx => (List.mem_append.mp hx).elim (h x) (h2 x)
abbrev everyS : Str := Str.ofString "abcdefghijklmnopqrstuvwxyz"
theorem every_at {r : Nat} (hr : r < 26) : ∃ c, L2.atI everyS.cps.toList (r : Int) = some c ∧ Sg ⟨#[c]⟩ := lt_all.at hr
end Ov
namespace Ov
open PySem (Str PyData)
open MV
def Lay (n : Nat) (d : D) : Prop := ∃ p, d.toP = some p ∧ p.canLay0 = true ∧ p.depth ≤ n
theorem lay_int {n : Nat} (i : Int) : Lay n (.int i) := ⟨.int i, rfl, by simp [PyData.canLay0], by simp [PyData.depth]⟩
theorem lay_str {n : Nat} {x : Str} (h : okS x) : Lay n (.str x) := ⟨.str x, rfl, by simp [PyData.canLay0]; exact h, by simp [PyData.depth]⟩
theorem lay_all {n : Nat} : ∀ {l : List D}, (∀ x ∈ l, Lay n x) → ∃ ps, toPs l = some ps ∧ PyData.canLayAll0 ps = true ∧ PyData.depthAll ps ≤ n
  | [], _ => ⟨[], rfl, by simp [PyData.canLayAll0], by simp [PyData.depthAll]⟩
  | d :: l, h => by
    obtain ⟨p, h1, h2, h3⟩ := h d List.mem_cons_self
    obtain ⟨ps, g1, g2, g3⟩ := lay_all (l := l) fun x hx => h x (List.mem_cons_of_mem _ hx)
    refine ⟨p :: ps, by rw [toPs, h1, g1], by rw [PyData.canLayAll0, h2, g2]; rfl, ?_⟩
    rw [PyData.depthAll]
    omega
theorem lay_lst {n : Nat} {l : List D} (h : ∀ x ∈ l, Lay n x) : Lay (n + 1) (.lst l) := by
  obtain ⟨ps, g1, g2, g3⟩ := lay_all h
  exact ⟨.list ps, toP_lst g1, by rw [PyData.canLay0]; exact g2, by rw [PyData.depth]; omega⟩
theorem lay_dT {n : Nat} {t : List Str} (h : ∀ x ∈ t, okS x) : Lay (n + 1) (dT t) := lay_lst fun x hx => by
  obtain ⟨y, hy, rfl⟩ := List.mem_map.mp hx
  exact lay_str (h y hy)
theorem lay_dN {n : Nat} (l : List Nat) : Lay (n + 1) (dN l) := lay_lst fun x hx => by
  obtain ⟨y, hy, rfl⟩ := List.mem_map.mp hx
  exact lay_int _
theorem Lay.le {n m : Nat} (h : n ≤ m) {d : D} (l : Lay n d) : Lay m d := let ⟨p, a, b, c⟩ := l; ⟨p, a, b, Nat.le_trans c h⟩
theorem deq_self {d : D} (h : Lay 64 d) : deq d d = some true := by
  obtain ⟨p, h1, h2, h3⟩ := h
  cases d with
  | lst l =>
    show (match (D.lst l).toP, (D.lst l).toP with | some p, some q => if PySem.SeqAt.shaped p && PySem.SeqAt.shaped q then some (PyData.eqv p q) else none | _, _ => none) = _
    rw [h1]
    have : PySem.SeqAt.shaped p = true := by unfold PySem.SeqAt.shaped; rw [h2, decide_eq_true h3]; rfl
    simp only [this, Bool.and_self, if_true, PySem.SeqAt.eqv_refl p h2]
  | tup l =>
    show (match (D.tup l).toP, (D.tup l).toP with | some p, some q => if PySem.SeqAt.shaped p && PySem.SeqAt.shaped q then some (PyData.eqv p q) else none | _, _ => none) = _
    rw [h1]
    have : PySem.SeqAt.shaped p = true := by unfold PySem.SeqAt.shaped; rw [h2, decide_eq_true h3]; rfl
    simp only [this, Bool.and_self, if_true, PySem.SeqAt.eqv_refl p h2]
  | int i => simp [deq]
  | str i => simp [deq]
  | bl i => cases i <;> rfl
  | non => rfl
  | dic _ => cases h1
  | dit _ => cases h1
  | exc _ => cases h1
theorem gNe_self {d : D} (h : Lay 64 d) : gNe d d = some (.bl false) := by unfold gNe; rw [deq_self h]; rfl
theorem mulOk_small {i j : Int} (h1 : -(2 ^ 64) < i) (h2 : i < 2 ^ 64) : mulOk i j = true := by
  unfold mulOk
  rw [Bool.or_eq_true]
  exact .inl (decide_eq_true (.inl ⟨h1, h2⟩))
theorem letter_at {r : Nat} (hr : r < 26) : ∃ x, gIx (.str (Str.ofString "abcdefghijklmnopqrstuvwxyz")) (.int r) = some (.str x) ∧ Sg x := by
  obtain ⟨c, h1, h2⟩ := every_at hr
  refine ⟨⟨#[c]⟩, ?_, h2⟩
  have le : (Str.ofString "abcdefghijklmnopqrstuvwxyz").length ≤ LIM := by decide +kernel
  rw [gIx_s, if_pos le]
  have h1 : L2.atI (Str.ofString "abcdefghijklmnopqrstuvwxyz").cps.toList (r : Int) = some c := h1
  rw [h1]; rfl
end Ov
namespace Ov
open PySem (Str PyData)
open MV
theorem str_at {l : List Str} (hl : Tx l) {r : Nat} (hr : r < l.length) : ∃ x, L2.atI (l.map D.str) (r : Int) = some (.str x) ∧ Sg x := by
  refine ⟨l[r], ?_, hl _ (List.getElem_mem hr)⟩
  rw [atI_eq, List.getElem?_map, List.getElem?_eq_getElem hr]; rfl
theorem mapA (a b : List Str) : a.map D.str ++ b.map D.str = (a ++ b).map D.str := by rw [List.map_append]
theorem gMul_dT {t : List Str} {k : Nat} (h : t.length * k ≤ 100000) (hk : k ≤ 100000) : gMul (dT t) (.int (k : Int)) = some (dT (List.replicate k t).flatten) := by
  show (if (t.map D.str).length * (k : Int).toNat ≤ LIM ∧ -(2 ^ 63) ≤ (k : Int) ∧ (k : Int) < 2 ^ 63 then some (D.lst (List.replicate (k : Int).toNat (t.map D.str)).flatten) else none) = _
  rw [if_pos ⟨by rw [List.length_map, Int.toNat_natCast]; exact h, by omega, by omega⟩, Int.toNat_natCast]
  show _ = some (D.lst ((List.replicate k t).flatten.map D.str))
  rw [List.map_flatten, List.map_replicate]
theorem tx_rep {t : List Str} (h : Tx t) (k : Nat) : Tx (List.replicate k t).flatten := fun x hx => by
  obtain ⟨l, hl, hx⟩ := List.mem_flatten.mp hx
  rw [List.eq_of_mem_replicate hl] at hx
  exact h x hx
theorem rep_len (t : List Str) (k : Nat) : (List.replicate k t).flatten.length = k * t.length := by
  rw [List.length_flatten, List.map_replicate, List.sum_replicate_nat]
theorem min_nat (a b : Nat) : gMin2 [.int (a : Int), .int (b : Int)] = some (.int ((min a b : Nat) : Int)) := by
  rw [gMin2_i]
  by_cases h : (b : Int) < a
  · rw [if_pos h, show min a b = b by omega]
  · rw [if_neg h, show min a b = a by omega]
theorem max_nat (a b : Nat) : gMax2 [.int (a : Int), .int (b : Int)] = some (.int ((max a b : Nat) : Int)) := by
  rw [gMax2_i]
  by_cases h : (b : Int) > a
  · rw [if_pos h, show max a b = b by omega]
  · rw [if_neg h, show max a b = a by omega]
end Ov
namespace Ov
open PySem (Str PyData)
open MV
def Dk (l : List Int) : Prop := ∃ x y z, l = [x, y, z] ∧ 0 ≤ y ∧ y < 2147483629 ∧ 0 ≤ z
theorem mulOk_right {i j : Int} (h1 : -(2 ^ 64) < j) (h2 : j < 2 ^ 64) : mulOk i j = true := by
  unfold mulOk
  rw [Bool.or_eq_true]
  exact .inl (decide_eq_true (.inr ⟨h1, h2⟩))
theorem deck_ok (c : Int) : ∃ h io, F__law_deck [.int c] = .ok (dI h) io ∧ Dk h := by
  have hp : L2.CPow 10 18 := ⟨by decide, by decide, by decide⟩
  have hsz : (3 : Nat) ≤ PySem.sizeLine := by decide
  refine ⟨[if c - 10 ^ 18 > 0 then c - 10 ^ 18 else 0, c % 2147483629, 0], .int c, ?_, _, _, _, rfl, Int.emod_nonneg _ (by decide), Int.emod_lt_of_pos _ (by decide), Int.le_refl _⟩
  simp [F__law_deck, r_runF, B__law_deck, hp, hsz]
theorem dtake_ok {h : List Int} {m : Int} (hh : Dk h) (hm : 0 < m) : ∃ (r : Nat) (h' : List Int), F__law_take_v3 [dI h, .int m] = .ok (.int r) (dI h') ∧ (r : Int) < m ∧ Dk h' := by
  obtain ⟨x, y, z, rfl, h1, h2, h3⟩ := hh
  have hd : divW 65536 = true := by decide +kernel
  by_cases hx : 0 < x
  · refine ⟨(x % 65536 % m).toNat, [x / 65536, y, z + 1], ?_, ?_, x / 65536, y, z + 1, rfl, h1, h2, by omega⟩
    · rw [Int.toNat_of_nonneg (Int.emod_nonneg _ (by omega))]
      simp [F__law_take_v3, r_runF, B__law_take_v3, L2.atI, L2.ixN, hx, hm, hd]
    · rw [Int.toNat_of_nonneg (Int.emod_nonneg _ (by omega))]; exact Int.emod_lt_of_pos _ hm
  · have m0 : mulOk 7919 (z + 1) = true := mulOk_small (by decide) (by decide)
    have m1 : mulOk (y + 7919 * (z + 1)) 48271 = true := mulOk_right (by decide) (by decide)
    generalize hA : (y + 7919 * (z + 1)) * 48271 % 2147483647 = A
    have a0 : 0 ≤ A := by rw [← hA]; exact Int.emod_nonneg _ (by decide)
    have a1 : A < 2147483647 := by rw [← hA]; exact Int.emod_lt_of_pos _ (by decide)
    have m2 : mulOk A A = true := mulOk_small (by omega) (by omega)
    generalize hB : A * A % 2147483629 = B
    have m3 : mulOk 40692 (z + 1) = true := mulOk_small (by decide) (by decide)
    have m4 : mulOk (B + 40692 * (z + 1)) 69621 = true := mulOk_right (by decide) (by decide)
    have d8 : L2.CDiv ((B + 40692 * (z + 1)) * 69621 % 2147483563) 8 := ⟨by decide, by decide⟩
    refine ⟨((B + 40692 * (z + 1)) * 69621 % 2147483563 / 8 % m).toNat, [x, y, z + 1], ?_, ?_, x, y, z + 1, rfl, h1, h2, by omega⟩
    · rw [Int.toNat_of_nonneg (Int.emod_nonneg _ (by omega))]
      simp [F__law_take_v3, r_runF, B__law_take_v3, L2.atI, L2.ixN, hx, hm, m0, m1, hA, m2, hB, m3, m4, d8]
    · rw [Int.toNat_of_nonneg (Int.emod_nonneg _ (by omega))]; exact Int.emod_lt_of_pos _ hm
theorem dk_nat {h : List Int} {m : Nat} (hh : Dk h) (hm : 0 < m) : ∃ (r : Nat) (h' : List Int), F__law_take_v3 [dI h, .int m] = .ok (.int r) (dI h') ∧ r < m ∧ Dk h' := by
  obtain ⟨r, h', a, b, c⟩ := dtake_ok (m := m) hh (by omega)
  exact ⟨r, h', a, by omega, c⟩
theorem dletters_ok {h : List Int} (hh : Dk h) : ∃ l h', F__law_letters_v3 [dI h] = .ok (dT l) (dI h') ∧ Tx l ∧ 0 < l.length ∧ l.length ≤ 26 ∧ Dk h' := by
  obtain ⟨r1, h1, a1, a2, a3⟩ := dk_nat (m := 26) hh (by decide)
  obtain ⟨r2, h2, b1, b2, b3⟩ := dk_nat (m := 12) a3 (by decide)
  obtain ⟨r3, h3, c1, c2, c3⟩ := dk_nat (m := 6) b3 (by decide)
  have a1 : F__law_take_v3 [dI h, .int 26] = .ok (.int r1) (dI h1) := a1
  have b1 : F__law_take_v3 [dI h1, .int 12] = .ok (.int r2) (dI h2) := b1
  have c1 : F__law_take_v3 [dI h2, .int 6] = .ok (.int r3) (dI h3) := c1
  obtain ⟨st, s1, s2⟩ : ∃ st : Nat, L2.atI [D.int 1, .int 3, .int 5, .int 7, .int 9, .int 11, .int 15, .int 17, .int 19, .int 21, .int 23, .int 25] (r2 : Int) = some (.int st) ∧ st ≤ 25 := by
    rw [atI_eq]
    match r2, b2 with
    | 0, _ => exact ⟨1, rfl, by decide⟩
    | 1, _ => exact ⟨3, rfl, by decide⟩
    | 2, _ => exact ⟨5, rfl, by decide⟩
    | 3, _ => exact ⟨7, rfl, by decide⟩
    | 4, _ => exact ⟨9, rfl, by decide⟩
    | 5, _ => exact ⟨11, rfl, by decide⟩
    | 6, _ => exact ⟨15, rfl, by decide⟩
    | 7, _ => exact ⟨17, rfl, by decide⟩
    | 8, _ => exact ⟨19, rfl, by decide⟩
    | 9, _ => exact ⟨21, rfl, by decide⟩
    | 10, _ => exact ⟨23, rfl, by decide⟩
    | 11, _ => exact ⟨25, rfl, by decide⟩
  obtain ⟨mn, t1, t2, t3⟩ : ∃ mn : Nat, L2.atI [D.int 2, .int 2, .int 3, .int 26, .int 26, .int 1] (r3 : Int) = some (.int mn) ∧ 0 < mn ∧ mn ≤ 26 := by
    rw [atI_eq]
    match r3, c2 with
    | 0, _ => exact ⟨2, rfl, by decide, by decide⟩
    | 1, _ => exact ⟨2, rfl, by decide, by decide⟩
    | 2, _ => exact ⟨3, rfl, by decide, by decide⟩
    | 3, _ => exact ⟨26, rfl, by decide, by decide⟩
    | 4, _ => exact ⟨26, rfl, by decide, by decide⟩
    | 5, _ => exact ⟨1, rfl, by decide, by decide⟩
  have hs : smallI (mn : Int) = true := small_of (by omega) (by omega)
  have le : (Str.ofString "abcdefghijklmnopqrstuvwxyz").length ≤ LIM := by decide +kernel
  have z12 : (12 : Nat) ≤ PySem.sizeLine := by decide
  have z6 : (6 : Nat) ≤ PySem.sizeLine := by decide
  obtain ⟨acc, e', g1, t, rfl, rfl, q1, q2⟩ := lc_inv (is := [5]) (tg := tgN 5) (t := tTrue) (fe := e2 gIx (eV 1) (e2 gMod (e2 gAdd (eV 2) (e2 gMul (eV 3) (eV 5))) (eC (.int 26)))) (ds := rngD 0 mn)
    (fun i acc e => ∃ t, acc = t.map .str ∧ e = [some (dI h3), some (.str (Str.ofString "abcdefghijklmnopqrstuvwxyz")), some (.int r1), some (.int st), some (.int mn), none] ∧ Tx t ∧ t.length = i)
    [] [some (dI h3), some (.str (Str.ofString "abcdefghijklmnopqrstuvwxyz")), some (.int r1), some (.int st), some (.int mn), none] ⟨[], rfl, rfl, (fun _ hx => by cases hx), rfl⟩ (by rw [rngD_len]; show 0 + mn ≤ 100000; omega)
    (fun i d acc e hd hi => by
      obtain ⟨t, rfl, rfl, q1, q2⟩ := hi
      obtain ⟨hi, rfl⟩ := rng0_get hd
      have m1 : mulOk (st : Int) (i : Int) = true := mulOk_small (by omega) (by omega)
      obtain ⟨x, x1, x2⟩ := letter_at (r := (r1 + st * i) % 26) (Nat.mod_lt _ (by decide))
      have e1 : ((r1 : Int) + (st : Int) * (i : Int)) % 26 = (((r1 + st * i) % 26 : Nat) : Int) := by
        rw [Int.natCast_emod]; simp
      refine ⟨_, _, true, rfl, rfl, fun _ => ⟨.str x, [some (dI h3), some (.str (Str.ofString "abcdefghijklmnopqrstuvwxyz")), some (.int r1), some (.int st), some (.int mn), some (.int i)], ?_, t ++ [x], by simp, rfl, q1.append (fun y hy => by rw [List.mem_singleton.mp hy]; exact x2), by simp [q2]⟩, fun h => by cases h⟩
      simp [m1, e1, -gIx_s, x1, -Int.natCast_emod])
  rw [rngD_len] at q2
  refine ⟨t, h3, ?_, q1, by omega, by omega, c3⟩
  simp only [F__law_letters_v3, r_runF, B__law_letters_v3]
  simp [a1, b1, c1, s1, t1, hs, g1, z12, z6, List.all_map]
theorem dsigns_ok {l : List Str} (hl : Tx l) (h0 : 0 < l.length) {h : List Int} (hh : Dk h) {m : Nat} (hm : m ≤ 1000) : ∃ t h', F__law_signs_v3 [dI h, dT l, .int m] = .ok (dT t) (dI h') ∧ Tx t ∧ t.length = m ∧ Dk h' := by
  obtain ⟨acc, e', h1, ⟨t, h', rfl, rfl, q1, q2, q3⟩⟩ := lc_inv (is := [3]) (tg := tgN 3) (t := tTrue) (fe := e2 gIx (eV 1) (eCallW F__law_take_v3 0 (aCons (eN gLen (aCons (eV 1) aNil)) aNil))) (ds := rngD 0 m)
    (fun i acc e => ∃ t h', acc = t.map .str ∧ e = [some (dI h'), some (dT l), some (.int m), none] ∧ Tx t ∧ t.length = i ∧ Dk h')
    [] [some (dI h), some (dT l), some (.int m), none] ⟨[], h, rfl, rfl, (fun _ hx => by cases hx), rfl, hh⟩ (by rw [rngD_len]; show 0 + m ≤ 100000; omega)
    (fun i d acc e hd hi => by
      obtain ⟨t, h', rfl, rfl, q1, q2, q3⟩ := hi
      obtain ⟨r, h2, t1, t2, t3⟩ := dk_nat (m := l.length) q3 h0
      obtain ⟨x, x1, x2⟩ := str_at hl t2
      refine ⟨_, _, true, rfl, rfl, fun _ => ⟨.str x, [some (dI h2), some (dT l), some (.int m), some d], ?_, t ++ [x], h2, by simp, rfl, q1.append (fun y hy => by rw [List.mem_singleton.mp hy]; exact x2), by simp [q2], t3⟩, fun h => by cases h⟩
      simp [t1, x1, List.all_map])
  rw [rngD_len] at q2
  refine ⟨t, h', ?_, q1, q2, q3⟩
  have hs : smallI (m : Int) = true := small_of (by omega) (by omega)
  simp only [F__law_signs_v3, r_runF, B__law_signs_v3]
  simp [hs, h1, List.all_map]
theorem dword_ok {l : List Str} (hl : Tx l) (h0 : 0 < l.length) {most : Nat} (hm : 0 < most) (hm2 : most ≤ 100) {h : List Int} (hh : Dk h) : ∃ w h', F__law_word_v4 [dI h, dT l, .int most] = .ok (dT w) (dI h') ∧ Tx w ∧ 0 < w.length ∧ w.length ≤ 4 * most + 2 ∧ Dk h' := by
  obtain ⟨r1, h1, a1, a2, a3⟩ := dk_nat (m := 4) hh (by decide)
  obtain ⟨r2, h2, b1, b2, b3⟩ := dk_nat (m := most) a3 hm
  obtain ⟨one, h3, c1, c2, c3, c4⟩ := dsigns_ok hl h0 b3 (m := 1 + r2) (by omega)
  have a1 : F__law_take_v3 [dI h, .int 4] = .ok (.int r1) (dI h1) := a1
  have c1 : F__law_signs_v3 [dI h2, dT l, .int (1 + (r2 : Int))] = .ok (dT one) (dI h3) := c1
  have rc : r1 = 1 ∨ r1 = 2 ∨ (r1 ≠ 1 ∧ r1 ≠ 2) := by omega
  simp only [F__law_word_v4, r_runF, B__law_word_v4]
  rcases rc with rfl | rfl | ⟨n1, n2⟩
  · obtain ⟨r3, h4, d1, d2, d3⟩ := dk_nat (m := 3) c4 (by decide)
    obtain ⟨am, h5, e1, e2, e3, e4⟩ := dsigns_ok hl h0 d3 (m := r3) (by omega)
    have d1 : F__law_take_v3 [dI h3, .int 3] = .ok (.int r3) (dI h4) := d1
    have L1 : one.length + am.length ≤ LIM := by show _ ≤ 100000; omega
    have L2 : one.length + am.length + one.length ≤ LIM := by show _ ≤ 100000; omega
    refine ⟨one ++ am ++ one, h5, ?_, (c2.append e2).append c2, by rw [List.length_append, List.length_append]; omega, by rw [List.length_append, List.length_append]; omega, e4⟩
    simp [a1, b1, c1, d1, e1, L1, L2, mapA, List.all_map, -List.map_append, -List.append_assoc]
  · obtain ⟨r3, h4, d1, d2, d3⟩ := dk_nat (m := 3) c4 (by decide)
    obtain ⟨r4, h5, e1, e2, e3⟩ := dk_nat (m := one.length + 1) d3 (by omega)
    have d1 : F__law_take_v3 [dI h3, .int 3] = .ok (.int r3) (dI h4) := d1
    have e1 : F__law_take_v3 [dI h4, .int ((one.length : Int) + 1)] = .ok (.int r4) (dI h5) := e1
    have bd : one.length * (1 + r3) ≤ one.length * 3 := Nat.mul_le_mul (Nat.le_refl _) (by omega)
    have bd2 : one.length * 1 ≤ one.length * (1 + r3) := Nat.mul_le_mul (Nat.le_refl _) (by omega)
    have km : gMul (dT one) (.int (1 + (r3 : Int))) = some (dT (List.replicate (1 + r3) one).flatten) := by
      have := gMul_dT (t := one) (k := 1 + r3) (by omega) (by omega)
      exact this
    have rl := rep_len one (1 + r3)
    rw [Nat.mul_comm] at rl
    have tl : (one.take r4).length ≤ one.length := by rw [List.length_take]; omega
    have ct : cutA one none (some (r4 : Int)) = one.take r4 := cutA_to one r4
    refine ⟨(List.replicate (1 + r3) one).flatten ++ one.take r4, h5, ?_, (tx_rep c2 _).append (c2.take _), by rw [List.length_append]; omega, by rw [List.length_append]; omega, e3⟩
    have L1 : (List.replicate (1 + r3) one).flatten.length + (one.take r4).length ≤ LIM := by show _ ≤ 100000; omega
    generalize hR : (List.replicate (1 + r3) one).flatten = R at km L1
    generalize hT : one.take r4 = T at ct L1
    simp [a1, b1, c1, d1, km, e1, cutA_map, ct, L1, mapA, List.all_map, -List.map_append]
  · have p1 : ¬ (r1 : Int) = 1 := by omega
    have p2 : ¬ (r1 : Int) = 2 := by omega
    refine ⟨one, h3, ?_, c2, by omega, by omega, c4⟩
    simp [a1, b1, c1, n1, n2, p1, p2]
theorem doverlaid_ok {l w : List Str} (hl : Tx l) (h0 : 0 < l.length) (hw : Tx w) (w0 : 0 < w.length) (hw2 : w.length ≤ 100) {many : Nat} (hm : many ≤ 60) {h : List Int} (hh : Dk h) : ∃ t h', F__law_overlaid_v2 [dI h, dT l, dT w, .int many] = .ok (dT t) (dI h') ∧ Tx t ∧ w.length ≤ t.length ∧ t.length ≤ (many + 1) * (w.length + 1) ∧ Dk h' := by
  have hs : smallI (many : Int) = true := small_of (by omega) (by omega)
  have hs2 : smallI (w.length : Int) = true := small_of (by omega) (by omega)
  obtain ⟨e', g1, t, h', e5, e6, e7, rfl, q1, q2, q3, q4⟩ := for_inv (tg := tgN 5) (b := B__law_overlaid_v2_l1) (ds := rngD 0 many) (e := [some (dI h), some (dT l), some (dT w), some (.int many), some (dT w), none, none, none, none])
    (fun i e => ∃ t h' e5 e6 e7, e = [some (dI h'), some (dT l), some (dT w), some (.int many), some (dT t), e5, e6, e7, none] ∧ Tx t ∧ w.length ≤ t.length ∧ t.length ≤ (i + 1) * (w.length + 1) ∧ Dk h')
    ⟨w, h, none, none, none, rfl, hw, Nat.le_refl _, by omega, hh⟩
    (fun i d e hd hi => by
      obtain ⟨t, h', e5, e6, e7, rfl, q1, q2, q3, q4⟩ := hi
      obtain ⟨hi, rfl⟩ := rng0_get hd
      have bd : (i + 1) * (w.length + 1) ≤ 60 * 101 := Nat.mul_le_mul (by omega) (by omega)
      have lc := lc_nat (is := [8]) (tg := tgN 8) (t := tOr2 (tB (e2 gEq (eV 8) (eC (.int 0)))) (tB (e2 gEq (eSl (eV 4) (oSome (e2 gSub (eN gLen (aCons (eV 4) aNil)) (eV 8))) oNone) (eSl (eV 2) oNone (oSome (eV 8)))))) (fe := eV 8) (e := [some (dI h'), some (dT l), some (dT w), some (.int many), some (dT t), some (.int i), e6, e7, none]) (fun j => decide (j = 0) || decide (t.drop (t.length - j) = w.take j)) (fun k => .int (k : Int)) (List.range w.length) (by rw [List.length_range]; show _ ≤ 100000; omega)
        (fun k hk => by
          rw [List.mem_range] at hk
          refine ⟨_, [some (dI h'), some (dT l), some (dT w), some (.int many), some (dT t), some (.int i), e6, e7, some (.int k)], rfl, ?_, fun _ => ⟨_, rfl, rfl⟩, fun _ => rfl⟩
          have e2 : ((t.length : Int) - (k : Int)) = ((t.length - k : Nat) : Int) := by omega
          by_cases k0 : k = 0
          · subst k0; simp
          · have k0' : ¬ (k : Int) = 0 := by omega
            simp [k0, k0', cutA_map, cutA_from, e2, cutA_to, gEq_dT (q1.drop (t.length - k)).ok (hw.take k).ok, -List.map_take, -List.map_drop])
      rw [← rng0] at lc
      generalize hB : (List.range w.length).filter (fun j => decide (j = 0) || decide (t.drop (t.length - j) = w.take j)) = Bs at lc
      have hb0 : 0 < Bs.length := by
        rw [← hB]; apply List.length_pos_of_mem (a := 0)
        rw [List.mem_filter, List.mem_range]; exact ⟨w0, rfl⟩
      have hbl : ∀ j ∈ Bs, j < w.length := fun j hj => by
        rw [← hB, List.mem_filter, List.mem_range] at hj; exact hj.1
      obtain ⟨r1, h1, a1, a2, a3⟩ := dk_nat (m := Bs.length) q4 hb0
      have a1' : L2.atI (Bs.map fun k : Nat => D.int (k : Int)) (r1 : Int) = some (.int ((Bs[r1] : Nat) : Int)) := by
        rw [atI_eq, List.getElem?_map, List.getElem?_eq_getElem a2]; rfl
      have hov := hbl _ (List.getElem_mem a2)
      obtain ⟨r2, h2, b1, b2, b3⟩ := dk_nat (m := 8) a3 (by decide)
      have b1 : F__law_take_v3 [dI h1, .int 8] = .ok (.int r2) (dI h2) := b1
      have cf : ∀ k : Nat, cutA w (some (k : Int)) none = w.drop k := cutA_from w
      have mul1 : (i + 1 + 1) * (w.length + 1) = (i + 1) * (w.length + 1) + (w.length + 1) := by rw [Nat.succ_mul]
      by_cases hr : r2 = 0
      · subst hr
        obtain ⟨s, h3, c1, c2, c3, c4⟩ := dsigns_ok hl h0 b3 (m := 1) (by decide)
        have c1 : F__law_signs_v3 [dI h2, dT l, .int 1] = .ok (dT s) (dI h3) := c1
        have cf0 : cutA w (some 0) none = w := by have := cf 0; simpa using this
        have L1 : t.length + s.length ≤ LIM := by show _ ≤ 100000; omega
        have L2 : (t ++ s).length + w.length ≤ LIM := by rw [List.length_append]; show _ ≤ 100000; omega
        refine ⟨_, [some (dI h3), some (dT l), some (dT w), some (.int many), some (dT (t ++ s ++ w)), some (.int i), some (dN Bs), some (.int 0), none], .nx, rfl, ?_, .inl rfl, t ++ s ++ w, h3, _, _, _, rfl, (q1.append c2).append hw, by rw [List.length_append, List.length_append]; omega, by rw [List.length_append, List.length_append, mul1]; omega, c4⟩
        generalize hS : t ++ s = S at L2
        have mS : t.map D.str ++ s.map D.str = S.map D.str := by rw [← hS, List.map_append]
        have mW : S.map D.str ++ w.map D.str = (S ++ w).map D.str := by rw [List.map_append]
        simp [B__law_overlaid_v2_l1, hs2, lc, List.all_map, a1, a1', b1, c1, L1, mS, cutA_map, cf0, L2, mW, -List.map_append]
      · have hr' : ¬ (r2 : Int) = 0 := by omega
        have dl : (w.drop Bs[r1]).length ≤ w.length := by rw [List.length_drop]; omega
        have L1 : t.length + (w.drop Bs[r1]).length ≤ LIM := by show _ ≤ 100000; omega
        refine ⟨_, [some (dI h2), some (dT l), some (dT w), some (.int many), some (dT (t ++ w.drop Bs[r1])), some (.int i), some (dN Bs), some (.int (Bs[r1] : Nat)), none], .nx, rfl, ?_, .inl rfl, t ++ w.drop Bs[r1], h2, _, _, _, rfl, q1.append (hw.drop _), by rw [List.length_append]; omega, by rw [List.length_append, mul1]; omega, b3⟩
        have cw := cf Bs[r1]
        generalize w.drop Bs[r1] = W at cw L1
        simp [B__law_overlaid_v2_l1, hs2, lc, List.all_map, a1, a1', b1, hr, hr', cutA_map, cw, L1, mapA, -List.map_append])
  rw [rngD_len] at q3
  refine ⟨t, h', ?_, q1, q2, q3, q4⟩
  simp only [F__law_overlaid_v2, r_runF, B__law_overlaid_v2]
  simp [hs, List.all_map, g1]
theorem dbent_ok {l t : List Str} (hl : Tx l) (h0 : 0 < l.length) (ht : Tx t) (hl2 : t.length ≤ 1000) {h : List Int} (hh : Dk h) : ∃ t' h', F__law_bent [dI h, dT l, dT t] = .ok (dT t') (dI h') ∧ Tx t' ∧ t'.length ≤ t.length + 1 ∧ Dk h' := by
  obtain ⟨r1, h1, a1, a2, a3⟩ := dk_nat (m := t.length + 1) hh (by omega)
  obtain ⟨r2, h2, b1, b2, b3⟩ := dk_nat (m := 3) a3 (by decide)
  have a1 : F__law_take_v3 [dI h, .int ((t.length : Int) + 1)] = .ok (.int r1) (dI h1) := a1
  have b1 : F__law_take_v3 [dI h1, .int 3] = .ok (.int r2) (dI h2) := b1
  have ct := cutA_to t r1
  simp only [F__law_bent, r_runF, B__law_bent]
  by_cases hr : r2 = 0
  · subst hr
    have cf := cutA_from1 t r1
    refine ⟨t.take r1 ++ t.drop (r1 + 1), h2, ?_, (ht.take _).append (ht.drop _), by rw [List.length_append, List.length_take, List.length_drop]; omega, b3⟩
    have L1 : (t.take r1).length + (t.drop (r1 + 1)).length ≤ LIM := by rw [List.length_take, List.length_drop]; show _ ≤ 100000; omega
    generalize t.take r1 = A at ct L1
    generalize t.drop (r1 + 1) = B at cf L1
    simp [a1, b1, cutA_map, ct, cf, L1, mapA, List.all_map, -List.map_append]
  · have hr' : ¬ (r2 : Int) = 0 := by omega
    obtain ⟨s, h3, c1, c2, c3, c4⟩ := dsigns_ok hl h0 b3 (m := 1) (by decide)
    have c1 : F__law_signs_v3 [dI h2, dT l, .int 1] = .ok (dT s) (dI h3) := c1
    have cf : cutA t (some ((r1 : Int) + 2 - (r2 : Int))) none = t.drop (r1 + 2 - r2) := by
      rw [show (r1 : Int) + 2 - (r2 : Int) = ((r1 + 2 - r2 : Nat) : Int) by omega, cutA_from]
    refine ⟨t.take r1 ++ s ++ t.drop (r1 + 2 - r2), h3, ?_, ((ht.take _).append c2).append (ht.drop _), by rw [List.length_append, List.length_append, List.length_take, List.length_drop]; omega, c4⟩
    have L1 : (t.take r1).length + s.length ≤ LIM := by rw [List.length_take]; show _ ≤ 100000; omega
    have L2 : (t.take r1 ++ s).length + (t.drop (r1 + 2 - r2)).length ≤ LIM := by rw [List.length_append, List.length_take, List.length_drop]; show _ ≤ 100000; omega
    generalize t.take r1 = A at ct L1 L2
    generalize t.drop (r1 + 2 - r2) = B at cf L2
    generalize hS : A ++ s = S at L2
    have mS : A.map D.str ++ s.map D.str = S.map D.str := by rw [← hS, List.map_append]
    have mW : S.map D.str ++ B.map D.str = (S ++ B).map D.str := by rw [List.map_append]
    simp [a1, b1, hr, hr', c1, cutA_map, ct, cf, L1, mS, L2, mW, List.all_map, -List.map_append]
def pairT : M Fl := (sSeq (sSet 5 (eCallW F__law_take_v3 0 (aCons (e2 gIx (eN gLst (aCons (eC (.int 1)) (aCons (e2 gAdd (eN gLen (aCons (eV 3) aNil)) (eC (.int 1))) aNil))) (eCallW F__law_take_v3 0 (aCons (eC (.int 2)) aNil))) aNil)))
  (sSeq (sSet 6 (eCallW F__law_take_v3 0 (aCons (e2 gIx (eN gLst (aCons (eC (.int 1)) (aCons (e2 gAdd (eN gLen (aCons (eV 3) aNil)) (eC (.int 1))) aNil))) (eCallW F__law_take_v3 0 (aCons (eC (.int 2)) aNil))) aNil)))
  (sSeq (sSet 4 (eSl (eSl (eV 4) (oSome (eV 5)) oNone) oNone (oSome (eC (.int 200)))))
  (sSeq (sSet 4 (eSl (eV 4) oNone (oSome (e2 gSub (eN gLen (aCons (eV 4) aNil)) (eN gMin2 (aCons (eV 6) (aCons (eN gLen (aCons (eV 4) aNil)) aNil)))))))
  (sSeq (sIf (tB (e2 gEq (eCallW F__law_take_v3 0 (aCons (eC (.int 4)) aNil)) (eC (.int 0)))) (sSet 4 (eSl (eCallW F__law_bent 0 (aCons (eV 2) (aCons (eV 4) aNil))) oNone (oSome (eC (.int 200))))) sSkip)
  (sSeq (sIf (tB (e2 gEq (eCallW F__law_take_v3 0 (aCons (eC (.int 6)) aNil)) (eC (.int 0)))) (sSet 3 (eCallW F__law_bent 0 (aCons (eV 2) (aCons (eV 3) aNil)))) sSkip)
  (sRet (eN gTupD (aCons (eOrT (eV 4) (eSl (eV 2) oNone (oSome (eC (.int 1))))) (aCons (eOrT (eV 3) (eSl (eV 2) oNone (oSome (eC (.int 1))))) aNil)))))))))) 
theorem dcut_ok {w : List Str} {h : List Int} (hh : Dk h) : ∃ (r m k : Nat) (h1 h2 : List Int), F__law_take_v3 [dI h, .int 2] = .ok (.int k) (dI h1) ∧ L2.atI [D.int 1, .int ((w.length : Int) + 1)] (k : Int) = some (.int (m : Int)) ∧ F__law_take_v3 [dI h1, .int (m : Int)] = .ok (.int r) (dI h2) ∧ r ≤ w.length ∧ Dk h2 := by
  obtain ⟨k, h1, a1, a2, a3⟩ := dk_nat (m := 2) hh (by decide)
  have a1 : F__law_take_v3 [dI h, .int 2] = .ok (.int k) (dI h1) := a1
  match k, a2 with
  | 0, _ =>
    obtain ⟨r, h2, b1, b2, b3⟩ := dk_nat (m := 1) a3 (by decide)
    exact ⟨r, 1, 0, h1, h2, a1, rfl, b1, by omega, b3⟩
  | 1, _ =>
    obtain ⟨r, h2, b1, b2, b3⟩ := dk_nat (m := w.length + 1) a3 (by omega)
    exact ⟨r, w.length + 1, 1, h1, h2, a1, rfl, b1, by omega, b3⟩
theorem orT_ne {l t : List Str} (hl : Tx l) (h0 : 0 < l.length) (ht : Tx t) : ∃ u, Tx u ∧ u ≠ [] ∧ u.length ≤ max 1 t.length ∧ ∀ (e : PEnv) (i : Nat), e[i]? = some (some (dT t)) → e[2]? = some (some (dT l)) → eOrT (eV i) (eSl (eV 2) oNone (oSome (eC (.int 1)))) e = .ok (dT u) e := by
  have c1 : cutA l none (some (1 : Int)) = l.take 1 := cutA_to l 1
  cases t with
  | nil =>
    refine ⟨l.take 1, hl.take 1, fun h => ?_, by rw [List.length_take]; omega, fun e i h1 h2 => ?_⟩
    · have := congrArg List.length h; rw [List.length_take, List.length_nil] at this; omega
    · simp [h1, h2, cutA_map, c1, -List.map_take]
  | cons x r =>
    exact ⟨x :: r, ht, (fun h => by cases h), by omega, fun e i h1 h2 => by simp [h1]⟩
theorem pairT_ok {l w t : List Str} (hl : Tx l) (h0 : 0 < l.length) (hw : Tx w) (w0 : 0 < w.length) (hw2 : w.length ≤ 60) (ht : Tx t) {lg : D} {h : List Int} (hh : Dk h) {x5 x6 : Option D} :
    ∃ t' w' h' e, pairT [some (dI h), some lg, some (dT l), some (dT w), some (dT t), x5, x6] = .ok (.rt (.tup [dT t', dT w'])) (some (dI h') :: e) ∧ Tx t' ∧ t' ≠ [] ∧ t'.length ≤ 200 ∧ Tx w' ∧ w' ≠ [] ∧ w'.length ≤ w.length + 1 ∧ Dk h' := by
  have z2 : (2 : Nat) ≤ PySem.sizeLine := by decide
  obtain ⟨b, m1, k1, h1, h2, a1, a2, a3, a4, a5⟩ := dcut_ok (w := w) hh
  obtain ⟨n, m2, k2, h3, h4, b1, b2, b3, b4, b5⟩ := dcut_ok (w := w) a5
  have cf : cutA t (some (b : Int)) none = t.drop b := cutA_from t b
  have c200 : cutA (t.drop b) none (some (200 : Int)) = (t.drop b).take 200 := cutA_to _ 200
  generalize hA : (t.drop b).take 200 = A at c200
  have tA : Tx A := by rw [← hA]; exact (ht.drop b).take 200
  have lA : A.length ≤ 200 := by rw [← hA, List.length_take]; omega
  have mn := min_nat n A.length
  have sb : (A.length : Int) - ((min n A.length : Nat) : Int) = ((A.length - min n A.length : Nat) : Int) := by omega
  have cA := cutA_to A (A.length - min n A.length)
  generalize hB : A.take (A.length - min n A.length) = B at cA
  have tB : Tx B := by rw [← hB]; exact tA.take _
  have lB : B.length ≤ 200 := by rw [← hB, List.length_take]; omega
  obtain ⟨r1, h5, d1, d2, d3⟩ := dk_nat (m := 4) b5 (by decide)
  have d1 : F__law_take_v3 [dI h4, .int 4] = .ok (.int r1) (dI h5) := d1
  obtain ⟨C, h6, g1, tC, lC, g3⟩ : ∃ C h6, (sIf (MV.tB (e2 gEq (eCallW F__law_take_v3 0 (aCons (eC (.int 4)) aNil)) (eC (.int 0)))) (sSet 4 (eSl (eCallW F__law_bent 0 (aCons (eV 2) (aCons (eV 4) aNil))) oNone (oSome (eC (.int 200))))) sSkip) [some (dI h4), some lg, some (dT l), some (dT w), some (dT B), some (.int b), some (.int n)] = .ok .nx [some (dI h6), some lg, some (dT l), some (dT w), some (dT C), some (.int b), some (.int n)] ∧ Tx C ∧ C.length ≤ 200 ∧ Dk h6 := by
    by_cases hr : r1 = 0
    · subst hr
      obtain ⟨C, h6, c1, c2, c3, c4⟩ := dbent_ok hl h0 tB (by omega) d3
      have cc : cutA C none (some (200 : Int)) = C.take 200 := cutA_to C 200
      refine ⟨C.take 200, h6, ?_, c2.take _, by rw [List.length_take]; omega, c4⟩
      simp [d1, c1, cutA_map, cc, List.all_map, -List.map_take]
    · have hr' : ¬ (r1 : Int) = 0 := by omega
      exact ⟨B, h5, by simp [d1, hr, hr'], tB, lB, d3⟩
  obtain ⟨r2, h7, i1, i2, i3⟩ := dk_nat (m := 6) g3 (by decide)
  have i1 : F__law_take_v3 [dI h6, .int 6] = .ok (.int r2) (dI h7) := i1
  obtain ⟨E, h8, j1, tE, lE, j3⟩ : ∃ E h8, (sIf (MV.tB (e2 gEq (eCallW F__law_take_v3 0 (aCons (eC (.int 6)) aNil)) (eC (.int 0)))) (sSet 3 (eCallW F__law_bent 0 (aCons (eV 2) (aCons (eV 3) aNil)))) sSkip) [some (dI h6), some lg, some (dT l), some (dT w), some (dT C), some (.int b), some (.int n)] = .ok .nx [some (dI h8), some lg, some (dT l), some (dT E), some (dT C), some (.int b), some (.int n)] ∧ Tx E ∧ E.length ≤ w.length + 1 ∧ Dk h8 := by
    by_cases hr : r2 = 0
    · subst hr
      obtain ⟨C, h6, c1, c2, c3, c4⟩ := dbent_ok hl h0 hw (by omega) i3
      refine ⟨C, h6, ?_, c2, c3, c4⟩
      simp [i1, c1, List.all_map]
    · have hr' : ¬ (r2 : Int) = 0 := by omega
      exact ⟨w, h7, by simp [i1, hr, hr'], hw, by omega, i3⟩
  obtain ⟨t', p1, p2, p3, p4⟩ := orT_ne hl h0 tC
  obtain ⟨w', q1, q2, q3, q4⟩ := orT_ne hl h0 tE
  have p4 := p4 [some (dI h8), some lg, some (dT l), some (dT E), some (dT C), some (.int b), some (.int n)] 4 rfl rfl
  have q4 := q4 [some (dI h8), some lg, some (dT l), some (dT E), some (dT C), some (.int b), some (.int n)] 3 rfl rfl
  refine ⟨t', w', h8, [some lg, some (dT l), some (dT E), some (dT C), some (.int b), some (.int n)], ?_, p1, p2, by omega, q1, q2, by omega, j3⟩
  unfold pairT
  simp [z2, a1, a2, a3, b1, b2, b3, cutA_map, cf, c200, mn, sb, cA, g1, j1, p4, q4, List.all_map, -gMin2_i, -List.map_take, -List.map_drop, -r_sIf, -r_eOrT]
theorem pair_while {l w : List Str} {lg h : D} {x5 x6 : Option D} : ∀ (k : Nat) (t : List Str), Tx t → 0 < t.length → 200 - t.length ≤ k → t.length ≤ 20000 → ∃ t', Tx t' ∧ sWhile T__law_pair_l1 B__law_pair_l2 (k + 1) [some h, some lg, some (dT l), some (dT w), some (dT t), x5, x6] = .ok .nx [some h, some lg, some (dT l), some (dT w), some (dT t'), x5, x6]
  | 0, t, ht, h0, hk, hl => by
    refine ⟨t, ht, ?_⟩
    have h1 : ¬ (t.length : Int) < 200 := by omega
    have h2 : ¬ t.length < 200 := by omega
    simp [sWhile, T__law_pair_l1, h1]
  | k + 1, t, ht, h0, hk, hl => by
    by_cases h2 : t.length < 200
    · have h1 : (t.length : Int) < 200 := by omega
      obtain ⟨t', q1, q2⟩ := pair_while (l := l) (w := w) (lg := lg) (h := h) (x5 := x5) (x6 := x6) k (t ++ t) (ht.append ht) (by rw [List.length_append]; omega) (by rw [List.length_append]; omega) (by rw [List.length_append]; omega)
      refine ⟨t', q1, ?_⟩
      have L1 : t.length + t.length ≤ LIM := by show _ ≤ 100000; omega
      have hT : T__law_pair_l1 [some h, some lg, some (dT l), some (dT w), some (dT t), x5, x6] = .ok true [some h, some lg, some (dT l), some (dT w), some (dT t), x5, x6] := by simp [T__law_pair_l1, h1]
      have hB : B__law_pair_l2 [some h, some lg, some (dT l), some (dT w), some (dT t), x5, x6] = .ok .nx [some h, some lg, some (dT l), some (dT w), some (dT (t ++ t)), x5, x6] := by simp [B__law_pair_l2, L1, mapA, -List.map_append]
      rw [sWhile, bnd_of_ok hT]
      show bnd B__law_pair_l2 (sAft (sWhile T__law_pair_l1 B__law_pair_l2 (k + 1))) _ = _
      rw [bnd_of_ok hB]
      exact q2
    · refine ⟨t, ht, ?_⟩
      have h1 : ¬ (t.length : Int) < 200 := by omega
      simp [sWhile, T__law_pair_l1, h1]
theorem dpair_ok {h : List Int} (hh : Dk h) (lg : Bool) : ∃ t w h', F__law_pair [dI h, .bl lg] = .ok (.tup [dT t, dT w]) (dI h') ∧ Tx t ∧ t ≠ [] ∧ t.length ≤ 200 ∧ Tx w ∧ w ≠ [] ∧ w.length ≤ 51 ∧ Dk h' := by
  have z3 : (3 : Nat) ≤ PySem.sizeLine := by decide
  obtain ⟨l, h1, a1, a2, a3, a4, a5⟩ := dletters_ok hh
  obtain ⟨r1, h2, b1, b2, b3⟩ := dk_nat (m := 3) a5 (by decide)
  have b1 : F__law_take_v3 [dI h1, .int 3] = .ok (.int r1) (dI h2) := b1
  obtain ⟨m, m1, m2, m3⟩ : ∃ m : Nat, L2.atI [D.int 3, .int 6, .int 12] (r1 : Int) = some (.int (m : Int)) ∧ 0 < m ∧ m ≤ 12 := by
    rw [atI_eq]
    match r1, b2 with
    | 0, _ => exact ⟨3, rfl, by decide, by decide⟩
    | 1, _ => exact ⟨6, rfl, by decide, by decide⟩
    | 2, _ => exact ⟨12, rfl, by decide, by decide⟩
  obtain ⟨w, h3, c1, c2, c3, c4, c5⟩ := dword_ok a2 a3 m2 (by omega) b3
  obtain ⟨r2, h4, d1, d2, d3⟩ := dk_nat (m := 5) c5 (by decide)
  have d1 : F__law_take_v3 [dI h3, .int 5] = .ok (.int r2) (dI h4) := d1
  obtain ⟨t, h5, ee1, ee2, ee3, ee4, ee5⟩ := doverlaid_ok a2 a3 c2 c3 (by omega) (many := r2) (by omega) d3
  obtain ⟨t2, h6, f1, f2, f3⟩ : ∃ t2 h6, (sIf (tAnd2 (tTr (eV 1)) (tB (e2 gEq (eCallW F__law_take_v3 0 (aCons (eC (.int 16)) aNil)) (eC (.int 3))))) (sSeq (sSet 4 (eCallW F__law_overlaid_v2 0 (aCons (eV 2) (aCons (eV 3) (aCons (eC (.int 20)) aNil)))))
  (sWhile T__law_pair_l1 B__law_pair_l2 WFUEL)) sSkip) [some (dI h5), some (.bl lg), some (dT l), some (dT w), some (dT t), none, none] = .ok .nx [some (dI h6), some (.bl lg), some (dT l), some (dT w), some (dT t2), none, none] ∧ Tx t2 ∧ Dk h6 := by
    cases lg with
    | false => exact ⟨t, h5, by simp, ee2, ee5⟩
    | true =>
      obtain ⟨r3, h6, g1, g2, g3⟩ := dk_nat (m := 16) ee5 (by decide)
      have g1 : F__law_take_v3 [dI h5, .int 16] = .ok (.int r3) (dI h6) := g1
      by_cases hr : r3 = 3
      · subst hr
        obtain ⟨t2, h7, i1, i2, i3, i4, i5⟩ := doverlaid_ok a2 a3 c2 c3 (by omega) (many := 20) (by omega) g3
        have i1 : F__law_overlaid_v2 [dI h6, dT l, dT w, .int 20] = .ok (dT t2) (dI h7) := i1
        have bd : (20 + 1) * (w.length + 1) ≤ 21 * 101 := Nat.mul_le_mul (by omega) (by omega)
        obtain ⟨t3, j1, j2⟩ := pair_while (l := l) (w := w) (lg := .bl true) (h := dI h7) (x5 := none) (x6 := none) (WFUEL - 1) t2 i2 (by omega) (by show _ ≤ WFUEL - 1; unfold WFUEL; omega) (by omega)
        refine ⟨t3, h7, ?_, j1, i5⟩
        have wf : WFUEL - 1 + 1 = WFUEL := by unfold WFUEL; rfl
        rw [wf] at j2
        simp [g1, i1, j2, List.all_map]
      · have hr' : ¬ (r3 : Int) = 3 := by omega
        exact ⟨t, h6, by simp [g1, hr, hr'], ee2, g3⟩
  obtain ⟨t', w', h', e, k1, k2, k3, k4, k5, k6, k7, k8⟩ := pairT_ok a2 a3 c2 c3 (by omega) f2 (lg := .bl lg) f3 (x5 := none) (x6 := none)
  refine ⟨t', w', h', ?_, k2, k3, k4, k5, k6, by omega, k8⟩
  have hB : B__law_pair = sSeq (sSet 2 (eCallW F__law_letters_v3 0 aNil)) (sSeq (sSet 3 (eCallW F__law_word_v4 0 (aCons (eV 2) (aCons (e2 gIx (eN gLst (aCons (eC (.int 3)) (aCons (eC (.int 6)) (aCons (eC (.int 12)) aNil)))) (eCallW F__law_take_v3 0 (aCons (eC (.int 3)) aNil))) aNil)))) (sSeq (sSet 4 (eCallW F__law_overlaid_v2 0 (aCons (eV 2) (aCons (eV 3) (aCons (eCallW F__law_take_v3 0 (aCons (eC (.int 5)) aNil)) aNil))))) (sSeq (sIf (tAnd2 (tTr (eV 1)) (tB (e2 gEq (eCallW F__law_take_v3 0 (aCons (eC (.int 16)) aNil)) (eC (.int 3))))) (sSeq (sSet 4 (eCallW F__law_overlaid_v2 0 (aCons (eV 2) (aCons (eV 3) (aCons (eC (.int 20)) aNil)))))
  (sWhile T__law_pair_l1 B__law_pair_l2 WFUEL)) sSkip) pairT))) := rfl
  simp only [F__law_pair, r_runF, hB]
  simp [z3, a1, b1, m1, c1, d1, ee1, f1, k1, List.all_map, -r_sIf]
end Ov
namespace Ov
open PySem (Str)
open MV
def reach (w : Nat) : Nat → List Nat → Nat
  | r, [] => r
  | r, p :: L => if p ≤ r then reach w (p + w) L else reach w r L
abbrev Srt (l : List Nat) : Prop := l.Pairwise (· < ·)
theorem reach_fold (w : Nat) : ∀ (L : List Nat) (r : Nat), L.foldl (fun r p => if p ≤ r then p + w else r) r = reach w r L
  | [], r => rfl
  | p :: L, r => by
    rw [List.foldl_cons, reach_fold w L, reach]
    by_cases h : p ≤ r
    · rw [if_pos h, if_pos h]
    · rw [if_neg h, if_neg h]
theorem reach_max (w : Nat) : ∀ (L : List Nat) (r : Nat), Srt L → (∀ p ∈ L, r ≤ p + w) → L.foldl (fun r p => if p ≤ r then max r (p + w) else r) r = reach w r L
  | [], r, _, _ => rfl
  | p :: L, r, hs, hr => by
    rw [List.foldl_cons, reach]
    have hs := List.pairwise_cons.mp hs
    have h1 := hr p List.mem_cons_self
    by_cases h : p ≤ r
    · rw [if_pos h, if_pos h, Nat.max_eq_right h1, reach_max w L _ hs.2 fun q hq => by have := hs.1 q hq; omega]
    · rw [if_neg h, if_neg h, reach_max w L _ hs.2 fun q hq => hr q (List.mem_cons_of_mem _ hq)]
theorem srt_range (n : Nat) : Srt (List.range n) := List.pairwise_lt_range
theorem srt_filter {l : List Nat} (p : Nat → Bool) (h : Srt l) : Srt (l.filter p) := h.filter p
theorem srt_lies (t w : List Str) : Srt (lies t w) := srt_filter _ (srt_range _)
end Ov
namespace Ov
open PySem (Str)
open MV
end Ov
namespace Ov
open PySem (Str)
open MV
theorem need_text_val {t : List Str} (ht : Tx t) (h0 : t ≠ []) : F_need_text [dT t] = .ok .non (dT t) := by
  simp only [F_need_text, r_runF, B_need_text]
  simp [hsz0, gEq_nT ht.ok, h0]
theorem need_both_val {t w : List Str} (ht : Tx t) (hw : Tx w) (ht0 : t ≠ []) (h0 : w ≠ []) (hl : t.length ≤ 1000) (hl2 : w.length ≤ 1000) : F_need_both [dT t, dT w] = .ok .non (dT t) := by
  have hL : t.length + w.length ≤ LIM := by show _ ≤ 100000; omega
  have hn := need_signs_val (ht.append hw) (by rw [List.length_append]; exact hL)
  have hn : F_need_signs [.lst (t.map D.str ++ w.map D.str)] = .ok .non (dT (t ++ w)) := by rw [← List.map_append]; exact hn
  simp only [F_need_both, r_runF, B_need_both]
  simp [need_word_val hw h0, hL, hn, need_text_val ht ht0]
theorem lies_self (t : List Str) : lies t t = [0] := by
  unfold lies
  rw [show t.length + 1 - t.length = 1 by omega]
  simp
end Ov
namespace Ov
open PySem (Str PyData)
open MV
def topL (p : Nat → Bool) : Nat → Nat
  | 0 => 0
  | n + 1 => if p (n + 1) then n + 1 else topL p n
theorem topL_le (p : Nat → Bool) : ∀ n, topL p n ≤ n
  | 0 => Nat.le_refl _
  | n + 1 => by
    unfold topL
    split
    · exact Nat.le_refl _
    · have := topL_le p n; omega
theorem topL_yes (p : Nat → Bool) : ∀ n, topL p n ≠ 0 → p (topL p n) = true
  | 0, h => absurd rfl h
  | n + 1, h => by
    unfold topL at h ⊢
    split
    · assumption
    · rename_i q
      rw [if_neg q] at h
      exact topL_yes p n h
theorem topL_max (p : Nat → Bool) : ∀ n k, 1 ≤ k → k ≤ n → p k = true → k ≤ topL p n
  | 0, k, h1, h2, _ => by omega
  | n + 1, k, h1, h2, h3 => by
    unfold topL
    split
    · exact h2
    · rename_i q
      have : k ≠ n + 1 := fun e => by subst e; exact q h3
      exact topL_max p n k h1 (by omega) h3
theorem rngC_down (n : Nat) : rngC ((n + 1 : Nat) : Int) (-1) (n + 1) = .int ((n + 1 : Nat) : Int) :: rngC (n : Int) (-1) n := by
  unfold rngC
  rw [List.range_succ_eq_map, List.map_cons, List.map_map]
  have h1 : (List.range n).map ((fun k : Nat => D.int (((n + 1 : Nat) : Int) + (k : Int) * -1)) ∘ Nat.succ) = (List.range n).map fun k : Nat => D.int ((n : Int) + (k : Int) * -1) := by
    apply List.map_congr_left
    intro k _
    show D.int _ = D.int _
    congr 1
    omega
  rw [h1]
  congr 2
theorem down_loop {b : M Fl} {j m : Nat} (p : Nat → Bool) (A : Option D → PEnv) (hA : ∀ x d, (A x).set j (some d) = A (some d))
    (hb : ∀ k, 1 ≤ k → k ≤ m → b (A (some (.int (k : Int)))) = if p k = true then .ok (.rt (.int (k : Int))) (A (some (.int (k : Int)))) else .ok .nx (A (some (.int (k : Int))))) :
    ∀ n, n ≤ m → ∀ x, ∃ y, sForL (tgN j) b (rngC (n : Int) (-1) n) (A x) = if topL p n = 0 then .ok .nx (A y) else .ok (.rt (.int (topL p n : Nat))) (A y)
  | 0, _, x => ⟨x, rfl⟩
  | n + 1, hn, x => by
    have h1 := hb (n + 1) (by omega) hn
    have h0 : tgN j (.int ((n + 1 : Nat) : Int)) (A x) = .ok () (A (some (.int ((n + 1 : Nat) : Int)))) := by rw [r_tgN, hA]
    rw [rngC_down, sForL, bnd_of_ok h0]
    cases q : p (n + 1) with
    | true =>
      rw [q, if_pos rfl] at h1
      rw [bnd_of_ok h1]
      refine ⟨some (.int ((n + 1 : Nat) : Int)), ?_⟩
      have e : topL p (n + 1) = n + 1 := by unfold topL; rw [if_pos q]
      rw [e, if_neg (by omega)]
      rfl
    | false =>
      rw [q, if_neg (by decide)] at h1
      rw [bnd_of_ok h1]
      have e : topL p (n + 1) = topL p n := by rw [topL, q]; rfl
      rw [e]
      exact down_loop p A hA hb n (by omega) _
def haB (t w : List Str) (l : Nat) : Bool := decide (w.drop (w.length - l) = t.take l)
def hbB (t w : List Str) (l : Nat) : Bool := decide (w.take l = t.drop (t.length - l))
def ha (t w : List Str) : Nat := topL (haB t w) (min t.length (w.length - 1))
def hb (t w : List Str) : Nat := topL (hbB t w) (min t.length (w.length - 1))
theorem hb_le (t w : List Str) : hb t w ≤ t.length := Nat.le_trans (topL_le _ _) (Nat.min_le_left _ _)
theorem hung_ahead_val {t w : List Str} (ht : Tx t) (hw : Tx w) (w0 : w ≠ []) (hl : t.length ≤ 1000) (hl2 : w.length ≤ 1000) : F_hung_ahead [dT t, dT w] = .ok (.int (ha t w : Nat)) (dT t) := by
  have w1 : 0 < w.length := List.length_pos_iff.mpr w0
  have mn : gMin2 [.int (t.length : Int), .int ((w.length : Int) - 1)] = some (.int ((min t.length (w.length - 1) : Nat) : Int)) := by
    have := min_nat t.length (w.length - 1)
    rwa [show ((w.length - 1 : Nat) : Int) = (w.length : Int) - 1 by omega] at this
  have hs : smallI ((min t.length (w.length - 1) : Nat) : Int) = true := small_of (by omega) (by omega)
  have h0 : smallI 0 = true := by decide
  obtain ⟨y, h1⟩ := down_loop (b := B_hung_ahead_l1) (j := 2) (m := min t.length (w.length - 1)) (haB t w) (fun x => [some (dT t), some (dT w), x]) (fun x d => rfl) (fun k k1 k2 => by
    have e1 : (w.length : Int) - (k : Int) = ((w.length - k : Nat) : Int) := by omega
    have c1 := cutA_from w (w.length - k)
    have c2 := cutA_to t k
    have eq := gEq_dT (hw.drop (w.length - k)).ok (ht.take k).ok
    unfold haB
    by_cases q : w.drop (w.length - k) = t.take k
    · rw [decide_eq_true q] at eq ⊢
      simp [B_hung_ahead_l1, e1, cutA_map, c1, c2, eq, -List.map_take, -List.map_drop]
    · rw [decide_eq_false q] at eq ⊢
      simp [B_hung_ahead_l1, e1, cutA_map, c1, c2, eq, -List.map_take, -List.map_drop]) (min t.length (w.length - 1)) (Nat.le_refl _) none
  have e2 : (((min t.length (w.length - 1) : Nat) : Int) - 0).toNat = min t.length (w.length - 1) := by omega
  have hh : ha t w = topL (haB t w) (min t.length (w.length - 1)) := rfl
  rw [← hh] at h1
  generalize min t.length (w.length - 1) = m at mn hs h1 e2
  simp only [F_hung_ahead, r_runF, B_hung_ahead]
  have e3 : ((m : Int) - 0).toNat = m := by omega
  by_cases q : ha t w = 0
  · rw [if_pos q] at h1
    simp [mn, -gMin2_i, hs, h0, e3, h1, q]
  · rw [if_neg q] at h1
    simp [mn, -gMin2_i, hs, h0, e3, h1]
theorem hung_behind_val {t w : List Str} (ht : Tx t) (hw : Tx w) (w0 : w ≠ []) (hl : t.length ≤ 1000) (hl2 : w.length ≤ 1000) : F_hung_behind [dT t, dT w] = .ok (.int (hb t w : Nat)) (dT t) := by
  have w1 : 0 < w.length := List.length_pos_iff.mpr w0
  have mn : gMin2 [.int (t.length : Int), .int ((w.length : Int) - 1)] = some (.int ((min t.length (w.length - 1) : Nat) : Int)) := by
    have := min_nat t.length (w.length - 1)
    rwa [show ((w.length - 1 : Nat) : Int) = (w.length : Int) - 1 by omega] at this
  have hs : smallI ((min t.length (w.length - 1) : Nat) : Int) = true := small_of (by omega) (by omega)
  have h0 : smallI 0 = true := by decide
  obtain ⟨y, h1⟩ := down_loop (b := B_hung_behind_l1) (j := 2) (m := min t.length (w.length - 1)) (hbB t w) (fun x => [some (dT t), some (dT w), x]) (fun x d => rfl) (fun k k1 k2 => by
    have e1 : (t.length : Int) - (k : Int) = ((t.length - k : Nat) : Int) := by omega
    have c1 := cutA_from t (t.length - k)
    have c2 := cutA_to w k
    have eq := gEq_dT (hw.take k).ok (ht.drop (t.length - k)).ok
    unfold hbB
    by_cases q : w.take k = t.drop (t.length - k)
    · rw [decide_eq_true q] at eq ⊢
      simp [B_hung_behind_l1, e1, cutA_map, c1, c2, eq, -List.map_take, -List.map_drop]
    · rw [decide_eq_false q] at eq ⊢
      simp [B_hung_behind_l1, e1, cutA_map, c1, c2, eq, -List.map_take, -List.map_drop]) (min t.length (w.length - 1)) (Nat.le_refl _) none
  have hh : hb t w = topL (hbB t w) (min t.length (w.length - 1)) := rfl
  rw [← hh] at h1
  generalize min t.length (w.length - 1) = m at mn hs h1
  simp only [F_hung_behind, r_runF, B_hung_behind]
  have e3 : ((m : Int) - 0).toNat = m := by omega
  by_cases q : hb t w = 0
  · rw [if_pos q] at h1
    simp [mn, -gMin2_i, hs, h0, e3, h1, q]
  · rw [if_neg q] at h1
    simp [mn, -gMin2_i, hs, h0, e3, h1]
def cam (w b : Nat) (L : List Nat) : Nat := L.foldl (fun r p => if p ≤ r then max r (p + w) else r) b
theorem camid_val {t w : List Str} (ht : Tx t) (hw : Tx w) {b e : Nat} (hl : t.length ≤ 1000) (hl2 : w.length ≤ 1000) : F_covers_amid [dT t, dT w, .int (b : Int), .int (e : Int)] = .ok (.bl (decide (e ≤ cam w.length b (lies t w)))) (dT t) := by
  obtain ⟨e', h1, x, rfl⟩ := for_fold (tg := tgN 5) (b := B_covers_amid_l1) (φ := fun k : Nat => D.int (k : Int)) (fun (r : Nat) env => ∃ x, env = [some (dT t), some (dT w), some (.int (b : Int)), some (.int (e : Int)), some (.int (r : Int)), x]) (fun r p => if p ≤ r then max r (p + w.length) else r) (lies t w) b [some (dT t), some (dT w), some (.int (b : Int)), some (.int (e : Int)), some (.int (b : Int)), none] ⟨none, rfl⟩
    (fun r p env _ hr => by
      obtain ⟨x, rfl⟩ := hr
      have mx : gMax2 [.int (r : Int), .int ((p : Int) + (w.length : Int))] = some (.int ((max r (p + w.length) : Nat) : Int)) := max_nat r (p + w.length)
      refine ⟨_, _, .nx, rfl, ?_, .inl rfl, some (.int (p : Int)), rfl⟩
      by_cases q : p ≤ r
      · have q' : (p : Int) ≤ r := by omega
        simp [B_covers_amid_l1, q, q', mx, -gMax2_i]
      · have q' : ¬ (p : Int) ≤ r := by omega
        simp [B_covers_amid_l1, q, q'])
  have hc : (lies t w).foldl (fun r p => if p ≤ r then max r (p + w.length) else r) b = cam w.length b (lies t w) := rfl
  rw [hc] at h1
  simp only [F_covers_amid, r_runF, B_covers_amid]
  have z : decide ((e : Int) ≤ (cam w.length b (lies t w) : Nat)) = decide (e ≤ cam w.length b (lies t w)) := decide_eq_decide.mpr (by omega)
  simp [laid_at_val ht hw hl hl2, h1, z]
def rbV (t w : List Str) : Bool := decide (t.length - hb t w ≤ cam w.length 0 (lies t w))
def raV (t w : List Str) : Bool := decide (t.length ≤ cam w.length (ha t w) (lies t w))
def cbV (t w : List Str) : Bool := !decide (lies w t = []) || decide (t.length - hb t w ≤ cam w.length (ha t w) (lies t w))
section
variable {t w : List Str}
theorem rest_behind_val (ht : Tx t) (hw : Tx w) (t0 : t ≠ []) (w0 : w ≠ []) (hl : t.length ≤ 1000) (hl2 : w.length ≤ 1000) : F_rest_behind [dT t, dT w] = .ok (.bl (rbV t w)) (dT t) := by
  have e1 : (t.length : Int) - ((hb t w : Nat) : Int) = ((t.length - hb t w : Nat) : Int) := by have := hb_le t w; omega
  have c := camid_val (b := 0) (e := t.length - hb t w) ht hw hl hl2
  rw [show ((0 : Nat) : Int) = 0 from rfl] at c
  simp only [F_rest_behind, r_runF, B_rest_behind]
  simp [need_both_val ht hw t0 w0 hl hl2, hung_behind_val ht hw w0 hl hl2, e1, c, rbV]
theorem rest_ahead_val (ht : Tx t) (hw : Tx w) (t0 : t ≠ []) (w0 : w ≠ []) (hl : t.length ≤ 1000) (hl2 : w.length ≤ 1000) : F_rest_ahead [dT t, dT w] = .ok (.bl (raV t w)) (dT t) := by
  simp only [F_rest_ahead, r_runF, B_rest_ahead]
  simp [need_both_val ht hw t0 w0 hl hl2, hung_ahead_val ht hw w0 hl hl2, camid_val ht hw hl hl2, raV]
theorem take_ne {t : List Str} {k : Nat} (t0 : t ≠ []) (hk : 1 ≤ k) : t.take k ≠ [] := fun h => by
  have := congrArg List.length h
  have := List.length_pos_iff.mpr t0
  rw [List.length_take, List.length_nil] at *; omega
theorem drop_ne {t : List Str} {k : Nat} (hk : k < t.length) : t.drop k ≠ [] := fun h => by
  have := congrArg List.length h
  rw [List.length_drop, List.length_nil] at this; omega
def bwr (t : List Str) : List Nat := (List.range' 1 t.length).filter fun k => rbV t (t.take k)
def ewr (t : List Str) : List Nat := (List.range' 1 t.length).filter fun k => raV t (t.drop (t.length - k))
theorem beginnings_val (ht : Tx t) (t0 : t ≠ []) (hl : t.length ≤ 1000) : F_beginnings_with_rest [dT t] = .ok (dN (bwr t)) (dT t) := by
  have hs1 : smallI 1 = true := by decide
  have hs2 : smallI ((t.length : Int) + 1) = true := small_of (by omega) (by omega)
  have e1 : (((t.length : Int) + 1) - 1).toNat = t.length := by omega
  have h1 := lc_nat (is := [1]) (tg := tgN 1) (t := tB (eCall F_rest_behind (aCons (eV 0) (aCons (eSl (eV 0) oNone (oSome (eV 1))) aNil)))) (fe := eV 1) (e := [some (dT t), none]) (fun k => rbV t (t.take k)) (fun k => .int (k : Int)) (List.range' 1 t.length) (by rw [List.length_range']; show _ ≤ 100000; omega)
    (fun k hk => by
      have hk : 1 ≤ k ∧ k ≤ t.length := by rw [List.mem_range'] at hk; obtain ⟨i, h1, h2⟩ := hk; omega
      refine ⟨_, [some (dT t), some (.int k)], rfl, ?_, fun _ => ⟨_, rfl, rfl⟩, fun _ => rfl⟩
      have hv := rest_behind_val ht (ht.take k) t0 (take_ne t0 hk.1) hl (by rw [List.length_take]; omega)
      simp [cutA_map, cutA_to, hv, -List.map_take])
  rw [← rngN, show ((1 : Nat) : Int) = 1 from rfl] at h1
  simp only [F_beginnings_with_rest, r_runF, B_beginnings_with_rest]
  simp [need_signs_val ht (show t.length ≤ 100000 by omega), need_text_val ht t0, hs1, hs2, h1, List.all_map, bwr]
theorem endsr_val (ht : Tx t) (t0 : t ≠ []) (hl : t.length ≤ 1000) : F_ends_with_rest [dT t] = .ok (dN (ewr t)) (dT t) := by
  have hs1 : smallI 1 = true := by decide
  have hs2 : smallI ((t.length : Int) + 1) = true := small_of (by omega) (by omega)
  have e1 : (((t.length : Int) + 1) - 1).toNat = t.length := by omega
  have h1 := lc_nat (is := [1]) (tg := tgN 1) (t := tB (eCall F_rest_ahead (aCons (eV 0) (aCons (eSl (eV 0) (oSome (e2 gSub (eN gLen (aCons (eV 0) aNil)) (eV 1))) oNone) aNil)))) (fe := eV 1) (e := [some (dT t), none]) (fun k => raV t (t.drop (t.length - k))) (fun k => .int (k : Int)) (List.range' 1 t.length) (by rw [List.length_range']; show _ ≤ 100000; omega)
    (fun k hk => by
      have hk : 1 ≤ k ∧ k ≤ t.length := by rw [List.mem_range'] at hk; obtain ⟨i, h1, h2⟩ := hk; omega
      refine ⟨_, [some (dT t), some (.int k)], rfl, ?_, fun _ => ⟨_, rfl, rfl⟩, fun _ => rfl⟩
      have hv := rest_ahead_val ht (ht.drop (t.length - k)) t0 (drop_ne (by omega)) hl (by rw [List.length_drop]; omega)
      have e2 : (t.length : Int) - (k : Int) = ((t.length - k : Nat) : Int) := by omega
      simp [cutA_map, e2, cutA_from, hv, -List.map_drop])
  rw [← rngN, show ((1 : Nat) : Int) = 1 from rfl] at h1
  simp only [F_ends_with_rest, r_runF, B_ends_with_rest]
  simp [need_signs_val ht (show t.length ≤ 100000 by omega), need_text_val ht t0, hs1, hs2, h1, List.all_map, ewr]
end
end Ov
namespace Ov
open PySem (Str PyData)
open MV
theorem depth_strs : ∀ a : List Str, PyData.depthAll (a.map PyData.str) = 0
  | [] => by simp [PyData.depthAll]
  | x :: a => by rw [List.map_cons, PyData.depthAll, depth_strs a]; simp [PyData.depth]
mutual
theorem eqv_eq : ∀ (p q : PyData), PySem.W.alike p q = true → PyData.eqv p q = true → p = q
  | .none, q, h, e => by cases q <;> first | rfl | (simp [PySem.W.alike] at h)
  | .bool a, q, h, e => by cases q <;> first | (exfalso; simp [PySem.W.alike] at h; done) | (simp [PyData.eqv] at e; rw [e])
  | .int a, q, h, e => by cases q <;> first | (exfalso; simp [PySem.W.alike] at h; done) | (simp [PyData.eqv] at e; rw [e])
  | .str a, q, h, e => by cases q <;> first | (exfalso; simp [PySem.W.alike] at h; done) | (simp [PyData.eqv] at e; rw [e])
  | .list xs, q, h, e => by
    cases q with
    | list ys =>
      rw [PySem.W.alike] at h
      rw [PyData.eqv] at e
      rw [eqvAll_eq xs ys h e]
    | _ => simp [PySem.W.alike] at h
  | .tuple xs, q, h, e => by
    cases q with
    | tuple ys =>
      rw [PySem.W.alike] at h
      rw [PyData.eqv] at e
      rw [eqvAll_eq xs ys h e]
    | _ => simp [PySem.W.alike] at h
  | .dict _, q, h, e => by cases q <;> simp [PySem.W.alike] at h
theorem eqvAll_eq : ∀ (p q : List PyData), PySem.W.alikeAll p q = true → PyData.eqvAll p q = true → p = q
  | [], [], _, _ => rfl
  | [], _ :: _, _, e => by simp [PyData.eqvAll] at e
  | _ :: _, [], _, e => by simp [PyData.eqvAll] at e
  | x :: xs, y :: ys, h, e => by
    rw [PySem.W.alikeAll, Bool.and_eq_true] at h
    rw [PyData.eqvAll, Bool.and_eq_true] at e
    rw [eqv_eq x y h.1 e.1, eqvAll_eq xs ys h.2 e.2]
end
section
variable {t w : List Str}
theorem for_step {tg : D → M Unit} {b : M Fl} {d : D} {r : List D} {e e1 e2 : PEnv} (h1 : tg d e = .ok () e1) (h2 : b e1 = .ok .nx e2) : sForL tg b (d :: r) e = sForL tg b r e2 := by
  rw [sForL, bnd_of_ok h1, bnd_of_ok h2]; rfl
end
end Ov
namespace Ov
open PySem (Str)
open MV
def Oc (t : List Str) (s p : Nat) : Prop := ∀ j, j < s → t[p + j]? = t[j]?
instance (t : List Str) (s p : Nat) : Decidable (Oc t s p) := Nat.decidableBallLT s fun j _ => t[p + j]? = t[j]?
def Cvr (t : List Str) (s e : Nat) : Prop := 1 ≤ s ∧ s ≤ e ∧ e ≤ t.length ∧ ∀ i, i < e → ∃ p, p ≤ i ∧ i < p + s ∧ p + s ≤ e ∧ Oc t s p
def rch (t : List Str) (s e : Nat) : Nat := reach s 0 ((lies t (t.take s)).filter fun p => decide (p + s ≤ e))
theorem Cvr.suffix {t : List Str} {s e : Nat} (h : Cvr t s e) : Oc t s (e - s) := by
  obtain ⟨h1, h2, h3, h4⟩ := h
  obtain ⟨p, a1, a2, a3, a4⟩ := h4 (e - 1) (by omega)
  rw [show e - s = p by omega]; exact a4
theorem Cvr.trans {t : List Str} {s g e : Nat} (h : Cvr t s g) (h2 : Cvr t g e) : Cvr t s e := by
  obtain ⟨a1, a2, a3, a4⟩ := h
  obtain ⟨b1, b2, b3, b4⟩ := h2
  refine ⟨a1, by omega, b3, fun i hi => ?_⟩
  obtain ⟨p, c1, c2, c3, c4⟩ := b4 i hi
  obtain ⟨q, d1, d2, d3, d4⟩ := a4 (i - p) (by omega)
  refine ⟨p + q, by omega, by omega, by omega, fun j hj => ?_⟩
  rw [Nat.add_assoc, c4 (q + j) (by omega), d4 j hj]
theorem Cvr.isB {t : List Str} {s e : Nat} (h : Cvr t s e) (hl : s < e) : isB t e s := by
  have hs := h.suffix
  exact ⟨hl, h.2.2.1, fun j hj => (hs j hj).symm⟩
end Ov
namespace Ov
open PySem (Str PyData)
open MV
theorem cam_ge (w : Nat) : ∀ (L : List Nat) (b : Nat), b ≤ cam w b L
  | [], b => Nat.le_refl _
  | p :: L, b => by
    unfold cam
    rw [List.foldl_cons]
    have := cam_ge w L (if p ≤ b then max b (p + w) else b)
    unfold cam at this
    refine Nat.le_trans ?_ this
    split <;> omega
theorem cam_in (w : Nat) : ∀ (L : List Nat) (b i : Nat), i < cam w b L → i < b ∨ ∃ p ∈ L, p ≤ i ∧ i < p + w
  | [], b, i, h => .inl h
  | p :: L, b, i, h => by
    have h : i < cam w (if p ≤ b then max b (p + w) else b) L := h
    rcases cam_in w L _ i h with h | ⟨q, h1, h2⟩
    · split at h
      · rename_i hp
        by_cases hi : i < b
        · exact .inl hi
        · exact .inr ⟨p, List.mem_cons_self, by omega, by omega⟩
      · exact .inl h
    · exact .inr ⟨q, List.mem_cons_of_mem _ h1, h2⟩
theorem cam_stop (w : Nat) : ∀ (L : List Nat) (b : Nat), (∀ p ∈ L, b < p) → cam w b L = b
  | [], b, _ => rfl
  | p :: L, b, h => by
    have h1 := h p List.mem_cons_self
    show cam w (if p ≤ b then max b (p + w) else b) L = b
    rw [if_neg (by omega)]
    exact cam_stop w L b fun q hq => h q (List.mem_cons_of_mem _ hq)
theorem cam_out (w : Nat) : ∀ (L : List Nat) (b : Nat), Srt L → ∀ p ∈ L, p ≤ cam w b L → p + w ≤ cam w b L
  | [], b, _, p, hp, _ => by cases hp
  | q :: L, b, hs, p, hp, h => by
    have hs := List.pairwise_cons.mp hs
    have e : cam w b (q :: L) = cam w (if q ≤ b then max b (q + w) else b) L := rfl
    rw [e] at h ⊢
    rcases List.mem_cons.mp hp with rfl | hp
    · by_cases hb : p ≤ b
      · rw [if_pos hb] at h ⊢
        have := cam_ge w L (max b (p + w))
        omega
      · rw [if_neg hb] at h ⊢
        rw [cam_stop w L b fun r hr => by have := hs.1 r hr; omega] at h
        omega
    · exact cam_out w L _ hs.2 p hp h
theorem cam_iff {w b e : Nat} {L : List Nat} (hs : Srt L) : e ≤ cam w b L ↔ ∀ i, i < e → i < b ∨ ∃ p ∈ L, p ≤ i ∧ i < p + w := by
  constructor
  · exact fun h i hi => cam_in w L b i (by omega)
  · intro h
    by_cases q : e ≤ cam w b L
    · exact q
    · exfalso
      rcases h (cam w b L) (by omega) with h1 | ⟨p, h1, h2, h3⟩
      · have := cam_ge w L b; omega
      · have := cam_out w L b hs p h1 h2; omega
section
variable (t w : List Str)
def ngv (k : Nat) : Prop := 1 ≤ k ∧ k < w.length ∧ (w.drop (w.length - k)).take t.length = t.take k
def psv (p : Nat) : Prop := p < t.length ∧ (t.drop p).take w.length = w.take (t.length - p)
def RAst (ah bh : Bool) : Prop := ∀ i, i < t.length → (ah = true ∧ ∃ k, ngv t w k ∧ (k ≤ t.length ∨ bh = true) ∧ i < k) ∨ ∃ p, psv t w p ∧ (p + w.length ≤ t.length ∨ bh = true) ∧ p ≤ i ∧ i < p + w.length
end
section
variable {t w : List Str}
theorem psv_lies {p : Nat} (h : p + w.length ≤ t.length) (h0 : 0 < w.length) : psv t w p ↔ p ∈ lies t w := by
  unfold psv lies
  rw [List.mem_filter, List.mem_range, decide_eq_true_iff, List.take_of_length_le (l := w) (by omega)]
  constructor
  · exact fun h2 => ⟨by omega, h2.2⟩
  · exact fun h2 => ⟨by omega, h2.2⟩
theorem psv_hb {p : Nat} (hp : p < t.length) (h : t.length < p + w.length) : psv t w p ↔ hbB t w (t.length - p) = true := by
  unfold psv hbB
  rw [decide_eq_true_iff, List.take_of_length_le (l := t.drop p) (by rw [List.length_drop]; omega), show t.length - (t.length - p) = p by omega]
  exact ⟨fun h2 => h2.2.symm, fun h2 => ⟨hp, h2.symm⟩⟩
theorem ngv_ha {k : Nat} (h1 : 1 ≤ k) (h2 : k < w.length) (h3 : k ≤ t.length) : ngv t w k ↔ haB t w k = true := by
  unfold ngv haB
  rw [decide_eq_true_iff, List.take_of_length_le (l := w.drop _) (by rw [List.length_drop]; omega)]
  exact ⟨fun h => h.2.2, fun h => ⟨h1, h2, h⟩⟩
theorem hb_max {p : Nat} (hp : p < t.length) (h : t.length < p + w.length) (h2 : psv t w p) : t.length - p ≤ hb t w := topL_max _ _ _ (by omega) (by omega) ((psv_hb hp h).mp h2)
theorem ha_max {k : Nat} (h : ngv t w k) (h3 : k ≤ t.length) : k ≤ ha t w := topL_max _ _ _ h.1 (by have := h.2.1; omega) ((ngv_ha h.1 h.2.1 h3).mp h)
theorem hb_psv (h : hb t w ≠ 0) : psv t w (t.length - hb t w) ∧ t.length - hb t w < t.length ∧ t.length < t.length - hb t w + w.length := by
  have h1 := topL_yes _ _ h
  have h2 := topL_le (hbB t w) (min t.length (w.length - 1))
  have h3 : hb t w = topL (hbB t w) (min t.length (w.length - 1)) := rfl
  rw [← h3] at h1 h2
  have a : t.length - hb t w < t.length := by omega
  have b : t.length < t.length - hb t w + w.length := by omega
  refine ⟨(psv_hb a b).mpr ?_, a, b⟩
  rw [show t.length - (t.length - hb t w) = hb t w by omega]
  exact h1
theorem ha_ngv (h : ha t w ≠ 0) : ngv t w (ha t w) ∧ ha t w ≤ t.length := by
  have h1 := topL_yes _ _ h
  have h2 := topL_le (haB t w) (min t.length (w.length - 1))
  have h3 : ha t w = topL (haB t w) (min t.length (w.length - 1)) := rfl
  rw [← h3] at h1 h2
  exact ⟨(ngv_ha (by omega) (by omega) (by omega)).mpr h1, by omega⟩
theorem mem_lies_iff {p : Nat} : p ∈ lies t w ↔ p + w.length ≤ t.length ∧ (t.drop p).take w.length = w := by
  unfold lies
  rw [List.mem_filter, List.mem_range, decide_eq_true_iff]
  constructor
  · exact fun h => ⟨by omega, h.2⟩
  · exact fun h => ⟨by omega, h.2⟩
theorem rbV_iff (w0 : 0 < w.length) : rbV t w = true ↔ RAst t w false true := by
  unfold rbV RAst
  rw [decide_eq_true_iff, cam_iff (srt_lies t w)]
  constructor
  · intro h i hi
    right
    by_cases q : i < t.length - hb t w
    · rcases h i q with h | ⟨p, h1, h2, h3⟩
      · omega
      · have := lies_lt h1
        exact ⟨p, (psv_lies this w0).mpr h1, .inr rfl, h2, h3⟩
    · have hn : hb t w ≠ 0 := by omega
      obtain ⟨a, b, c⟩ := hb_psv hn
      exact ⟨_, a, .inr rfl, by omega, by omega⟩
  · intro h i hi
    right
    rcases h i (by omega) with ⟨h, _⟩ | ⟨p, h1, _, h2, h3⟩
    · cases h
    · by_cases q : p + w.length ≤ t.length
      · exact ⟨p, (psv_lies q w0).mp h1, h2, h3⟩
      · have := hb_max h1.1 (by omega) h1
        omega
theorem raV_iff (w0 : 0 < w.length) : raV t w = true ↔ RAst t w true false := by
  unfold raV RAst
  rw [decide_eq_true_iff, cam_iff (srt_lies t w)]
  constructor
  · intro h i hi
    rcases h i hi with h | ⟨p, h1, h2, h3⟩
    · obtain ⟨a, b⟩ := ha_ngv (t := t) (w := w) (by omega)
      exact .inl ⟨rfl, _, a, .inl b, h⟩
    · have := lies_lt h1
      exact .inr ⟨p, (psv_lies this w0).mpr h1, .inl this, h2, h3⟩
  · intro h i hi
    rcases h i hi with ⟨_, k, h1, h2, h3⟩ | ⟨p, h1, h4, h2, h3⟩
    · rcases h2 with h2 | h2
      · have := ha_max h1 h2; exact .inl (by omega)
      · cases h2
    · rcases h4 with h4 | h4
      · exact .inr ⟨p, (psv_lies h4 w0).mp h1, h2, h3⟩
      · cases h4
theorem within_iff (t0 : 0 < t.length) : lies w t ≠ [] ↔ (∃ k, ngv t w k ∧ t.length ≤ k) ∨ (psv t w 0 ∧ t.length ≤ w.length) := by
  constructor
  · intro h
    obtain ⟨q, hq⟩ := List.exists_mem_of_ne_nil _ h
    obtain ⟨h1, h2⟩ := mem_lies_iff.mp hq
    by_cases q0 : q = 0
    · subst q0
      right
      rw [List.drop_zero] at h2
      refine ⟨⟨t0, ?_⟩, by omega⟩
      rw [List.drop_zero, List.take_of_length_le (by omega), Nat.sub_zero, h2]
    · left
      refine ⟨w.length - q, ⟨by omega, by omega, ?_⟩, by omega⟩
      rw [show w.length - (w.length - q) = q by omega, h2, List.take_of_length_le (by omega)]
  · rintro (⟨k, ⟨h1, h2, h3⟩, h4⟩ | ⟨h1, h2⟩) e
    · have : w.length - k ∈ lies w t := mem_lies_iff.mpr ⟨by omega, by rw [h3, List.take_of_length_le (by omega)]⟩
      rw [e] at this; cases this
    · have h3 := h1.2
      rw [List.drop_zero, List.take_of_length_le (by omega), Nat.sub_zero] at h3
      have : 0 ∈ lies w t := mem_lies_iff.mpr ⟨by omega, by rw [List.drop_zero]; exact h3.symm⟩
      rw [e] at this; cases this
theorem cbV_iff (t0 : 0 < t.length) (w0 : 0 < w.length) : cbV t w = true ↔ RAst t w true true := by
  unfold cbV
  rw [Bool.or_eq_true, Bool.not_eq_true', decide_eq_false_iff_not, decide_eq_true_iff, cam_iff (srt_lies t w)]
  have wi := within_iff (w := w) t0
  constructor
  · rintro (h | h)
    · intro i hi
      rcases wi.mp h with ⟨k, h1, h2⟩ | ⟨h1, h2⟩
      · exact .inl ⟨rfl, k, h1, .inr rfl, by omega⟩
      · exact .inr ⟨0, h1, .inr rfl, by omega, by omega⟩
    · intro i hi
      by_cases q : i < t.length - hb t w
      · rcases h i q with h | ⟨p, h1, h2, h3⟩
        · obtain ⟨a, b⟩ := ha_ngv (t := t) (w := w) (by omega)
          exact .inl ⟨rfl, _, a, .inl b, h⟩
        · have := lies_lt h1
          exact .inr ⟨p, (psv_lies this w0).mpr h1, .inl this, h2, h3⟩
      · obtain ⟨a, b, c⟩ := hb_psv (t := t) (w := w) (by omega)
        exact .inr ⟨_, a, .inr rfl, by omega, by omega⟩
  · intro h
    by_cases z : lies w t ≠ []
    · exact .inl z
    · right
      intro i hi
      rcases h i (by omega) with ⟨_, k, h1, _, h3⟩ | ⟨p, h1, _, h2, h3⟩
      · by_cases q : k ≤ t.length
        · have := ha_max h1 q; exact .inl (by omega)
        · exact absurd (wi.mpr (.inl ⟨k, h1, by omega⟩)) z
      · by_cases q : p + w.length ≤ t.length
        · exact .inr ⟨p, (psv_lies q w0).mp h1, h2, h3⟩
        · have := hb_max h1.1 (by omega) h1
          omega
end
end Ov
namespace Ov
open PySem (Str PyData)
open MV
theorem fold_max {α : Type} (c : α → Bool) (f : α → Nat) (i : Nat) : ∀ (l : List α) (b : Nat), i < l.foldl (fun d x => if c x = true then max d (f x) else d) b ↔ i < b ∨ ∃ x ∈ l, c x = true ∧ i < f x
  | [], b => by simp
  | x :: l, b => by
    rw [List.foldl_cons, fold_max c f i l]
    constructor
    · rintro (h | ⟨y, h1, h2⟩)
      · split at h
        · rename_i q
          by_cases z : i < b
          · exact .inl z
          · exact .inr ⟨x, List.mem_cons_self, q, by omega⟩
        · exact .inl h
      · exact .inr ⟨y, List.mem_cons_of_mem _ h1, h2⟩
    · rintro (h | ⟨y, h1, h2, h3⟩)
      · left; split <;> omega
      · rcases List.mem_cons.mp h1 with rfl | h1
        · left; rw [if_pos h2]; omega
        · exact .inr ⟨y, h1, h2, h3⟩
theorem fold_filter {α β : Type} (p : α → Bool) (f : β → α → β) : ∀ (l : List α) (b : β), l.foldl (fun d x => if p x = true then f d x else d) b = (l.filter p).foldl f b
  | [], b => rfl
  | x :: l, b => by
    rw [List.foldl_cons, fold_filter p f l, List.filter_cons]
    split <;> rfl
section
variable {t w : List Str}
def ownR (t w : List Str) (bh : Bool) (o : Nat) : List Str := if t.length < w.length - o ∧ bh = false then [] else w.drop o
def ownC (t w : List Str) (bh : Bool) (o : Nat) : Bool := decide ((ownR t w bh o).take t.length = t.take (ownR t w bh o).length)
def don1 (t w : List Str) (ah bh : Bool) : Nat := (List.range' 1 ((w.length - 1) * if ah then 1 else 0)).foldl (fun d o => if ownC t w bh o = true then max d (ownR t w bh o).length else d) 0
def plB (t w : List Str) (bh : Bool) (p : Nat) : Bool := decide ((t.drop p).take w.length = w.take (t.length - p)) && (decide (p + w.length ≤ t.length) || bh)
def don2 (t w : List Str) (ah bh : Bool) : Nat := ((List.range t.length).filter (plB t w bh)).foldl (fun d p => if p ≤ d then p + w.length else d) (don1 t w ah bh)
theorem don1_iff (w0 : 0 < w.length) {ah bh : Bool} (i : Nat) (hi : i < t.length) : i < don1 t w ah bh ↔ ah = true ∧ ∃ k, ngv t w k ∧ (k ≤ t.length ∨ bh = true) ∧ i < k := by
  unfold don1
  rw [fold_max]
  cases ah with
  | false => simp
  | true =>
    simp only [if_true, Nat.mul_one, true_and]
    constructor
    · rintro (h | ⟨o, h1, h2, h3⟩)
      · omega
      · rw [List.mem_range'] at h1
        obtain ⟨j, j1, rfl⟩ := h1
        unfold ownC ownR at h2
        unfold ownR at h3
        by_cases q : t.length < w.length - (1 + 1 * j) ∧ bh = false
        · rw [if_pos q] at h3; simp at h3
        · rw [if_neg q, decide_eq_true_iff] at h2
          rw [if_neg q, List.length_drop] at h3
          rw [List.length_drop] at h2
          refine ⟨w.length - (1 + 1 * j), ⟨by omega, by omega, ?_⟩, ?_, h3⟩
          · rw [show w.length - (w.length - (1 + 1 * j)) = 1 + 1 * j by omega]; exact h2
          · cases bh with
            | true => exact .inr rfl
            | false => exact .inl (by have : ¬ t.length < w.length - (1 + 1 * j) := fun z => q ⟨z, rfl⟩; omega)
    · rintro ⟨k, ⟨h1, h2, h3⟩, h4, h5⟩
      right
      refine ⟨w.length - k, ?_, ?_, ?_⟩
      · rw [List.mem_range']; exact ⟨w.length - k - 1, by omega, by omega⟩
      · unfold ownC ownR
        have q : ¬ (t.length < w.length - (w.length - k) ∧ bh = false) := by
          rintro ⟨a, b⟩
          rcases h4 with h4 | h4
          · omega
          · rw [b] at h4; cases h4
        rw [if_neg q, decide_eq_true_iff, h3, List.length_drop, show w.length - (w.length - k) = k by omega]
      · unfold ownR
        have q : ¬ (t.length < w.length - (w.length - k) ∧ bh = false) := by
          rintro ⟨a, b⟩
          rcases h4 with h4 | h4
          · omega
          · rw [b] at h4; cases h4
        rw [if_neg q, List.length_drop]; omega
theorem don1_le (w0 : 0 < w.length) {ah bh : Bool} : don1 t w ah bh ≤ w.length := by
  by_cases q : don1 t w ah bh ≤ w.length
  · exact q
  · exfalso
    have h : w.length < don1 t w ah bh := by omega
    unfold don1 at h
    rw [fold_max] at h
    rcases h with h | ⟨o, _, _, h⟩
    · omega
    · unfold ownR at h
      split at h
      · simp at h
      · rw [List.length_drop] at h; omega
theorem don2_iff (w0 : 0 < w.length) {ah bh : Bool} : t.length ≤ don2 t w ah bh ↔ RAst t w ah bh := by
  unfold don2
  have hs : Srt ((List.range t.length).filter (plB t w bh)) := srt_filter _ (srt_range _)
  have dl := don1_le (t := t) w0 (ah := ah) (bh := bh)
  rw [reach_fold, ← reach_max w.length _ _ hs (fun p _ => by omega)]
  have e : ((List.range t.length).filter (plB t w bh)).foldl (fun r p => if p ≤ r then max r (p + w.length) else r) (don1 t w ah bh) = cam w.length (don1 t w ah bh) ((List.range t.length).filter (plB t w bh)) := rfl
  rw [e, cam_iff hs]
  unfold RAst
  refine forall_congr' fun i => forall_congr' fun hi => ?_
  rw [don1_iff w0 i hi]
  refine or_congr Iff.rfl ?_
  constructor
  · rintro ⟨p, h1, h2, h3⟩
    rw [List.mem_filter, List.mem_range] at h1
    unfold plB at h1
    rw [Bool.and_eq_true, decide_eq_true_iff, Bool.or_eq_true, decide_eq_true_iff] at h1
    exact ⟨p, ⟨h1.1, h1.2.1⟩, h1.2.2, h2, h3⟩
  · rintro ⟨p, h1, h4, h2, h3⟩
    refine ⟨p, ?_, h2, h3⟩
    rw [List.mem_filter, List.mem_range]
    unfold plB
    rw [Bool.and_eq_true, decide_eq_true_iff, Bool.or_eq_true, decide_eq_true_iff]
    exact ⟨h1.1, h1.2, h4⟩
theorem rest_l1 (ht : Tx t) (hw : Tx w) (hl : t.length ≤ 1000) (hl2 : w.length ≤ 1000) {bh : Bool} {o d : Nat} {x2 x6 x7 x8 : Option D} : ∃ y7, B__law_rest_l1 [some (dT t), some (dT w), x2, some (.bl bh), some (.int (d : Int)), some (.int (o : Int)), x6, x7, x8] = .ok .nx [some (dT t), some (dT w), x2, some (.bl bh), some (.int ((if ownC t w bh o = true then max d (ownR t w bh o).length else d : Nat) : Int)), some (.int (o : Int)), x6, y7, x8] := by
  have cf := cutA_from w o
  have h1 : (sIf (tAnd2 (tB (e2 gGt (eN gLen (aCons (eV 7) aNil)) (eN gLen (aCons (eV 0) aNil)))) (tNot1 (tTr (eV 3)))) (sSet 7 (eN gLst aNil)) sSkip) [some (dT t), some (dT w), x2, some (.bl bh), some (.int (d : Int)), some (.int (o : Int)), x6, some (dT (w.drop o)), x8] = .ok .nx [some (dT t), some (dT w), x2, some (.bl bh), some (.int (d : Int)), some (.int (o : Int)), x6, some (dT (ownR t w bh o)), x8] := by
    unfold ownR
    by_cases q : t.length < w.length - o
    · have q' : (t.length : Int) < ((w.length - o : Nat) : Int) := by omega
      cases bh with
      | true => simp [q, q']
      | false =>
        rw [if_pos ⟨q, rfl⟩]
        simp [q, q', hsz0]
    · have q' : ¬ (t.length : Int) < ((w.length - o : Nat) : Int) := by omega
      rw [if_neg (fun z => q z.1)]
      simp [q, q']
  have to : Tx (ownR t w bh o) := by
    unfold ownR; split
    · exact fun x h => by cases h
    · exact hw.drop o
  refine ⟨some (dT (ownR t w bh o)), ?_⟩
  unfold ownC
  generalize ownR t w bh o = O at h1 to
  have c1 := cutA_to O t.length
  have c2 := cutA_to t O.length
  have eq := gEq_dT (to.take t.length).ok (ht.take O.length).ok
  have mx := max_nat d O.length
  by_cases q : O.take t.length = t.take O.length
  · rw [decide_eq_true q] at eq ⊢
    simp [B__law_rest_l1, cutA_map, cf, h1, c1, c2, eq, mx, -r_sIf, -List.map_take, -List.map_drop, -gMax2_i]
    simp [cutA_map, c1, c2, eq, mx, -List.map_take, -List.map_drop, -gMax2_i]
  · rw [decide_eq_false q] at eq ⊢
    simp [B__law_rest_l1, cutA_map, cf, h1, c1, c2, eq, -r_sIf, -List.map_take, -List.map_drop]
    simp [cutA_map, c1, c2, eq, -List.map_take, -List.map_drop]
theorem rest_l2 (ht : Tx t) (hw : Tx w) (hl : t.length ≤ 1000) (hl2 : w.length ≤ 1000) {bh : Bool} {p d : Nat} (hp : p < t.length) {x2 x5 x7 x8 : Option D} : ∃ y7 y8, B__law_rest_l2 [some (dT t), some (dT w), x2, some (.bl bh), some (.int (d : Int)), x5, some (.int (p : Int)), x7, x8] = .ok .nx [some (dT t), some (dT w), x2, some (.bl bh), some (.int ((if plB t w bh p = true then (if p ≤ d then p + w.length else d) else d : Nat) : Int)), x5, some (.int (p : Int)), y7, y8] := by
  have cm : cutA t (some (p : Int)) (some ((p : Int) + (w.length : Int))) = (t.drop p).take w.length := cutA_mid2 t p w.length
  have tO : Tx ((t.drop p).take w.length) := (ht.drop p).take _
  have lO : ((t.drop p).take w.length).length = min w.length (t.length - p) := by rw [List.length_take, List.length_drop]
  have wO : w.take ((t.drop p).take w.length).length = w.take (t.length - p) := by
    rw [lO]
    by_cases q : w.length ≤ t.length - p
    · rw [Nat.min_eq_left q, List.take_of_length_le (Nat.le_refl _), List.take_of_length_le q]
    · rw [Nat.min_eq_right (by omega)]
  unfold plB
  generalize (t.drop p).take w.length = O at cm tO lO wO
  have c2 := cutA_to w O.length
  rw [wO] at c2
  have eq := gEq_dT tO.ok (hw.take (t.length - p)).ok
  refine ⟨some (dT O), some (.bl (decide (p ≤ d) && decide (O = w.take (t.length - p)))), ?_⟩
  have h1 : (sSet 8 (eAndV (e2 gLe (eV 6) (eV 4)) (e2 gEq (eV 7) (eSl (eV 1) oNone (oSome (eN gLen (aCons (eV 7) aNil))))))) [some (dT t), some (dT w), x2, some (.bl bh), some (.int (d : Int)), x5, some (.int (p : Int)), some (dT O), x8] = .ok .nx [some (dT t), some (dT w), x2, some (.bl bh), some (.int (d : Int)), x5, some (.int (p : Int)), some (dT O), some (.bl (decide (p ≤ d) && decide (O = w.take (t.length - p))))] := by
    by_cases q : p ≤ d
    · have q' : (p : Int) ≤ d := by omega
      simp [q, q', cutA_map, c2, eq, -List.map_take]
    · have q' : ¬ (p : Int) ≤ d := by omega
      simp [q, q']
  have ll : (O.length : Int) = (w.length : Int) ↔ p + w.length ≤ t.length := by rw [lO]; omega
  have ll2 : O.length = w.length ↔ p + w.length ≤ t.length := by rw [lO]; omega
  have h0 : (sSet 7 (eSl (eV 0) (oSome (eV 6)) (oSome (e2 gAdd (eV 6) (eN gLen (aCons (eV 1) aNil)))))) [some (dT t), some (dT w), x2, some (.bl bh), some (.int (d : Int)), x5, some (.int (p : Int)), x7, x8] = .ok .nx [some (dT t), some (dT w), x2, some (.bl bh), some (.int (d : Int)), x5, some (.int (p : Int)), some (dT O), x8] := by
    simp [cutA_map, cm]
  unfold B__law_rest_l2
  rw [r_sSeq, h0, rb_ok, sqK_nx, r_sSeq, h1, rb_ok, sqK_nx]
  by_cases q1 : p ≤ d
  · by_cases q2 : O = w.take (t.length - p)
    · cases bh with
      | true => simp [q1, eq_true q2]
      | false =>
        by_cases q3 : p + w.length ≤ t.length
        · have e3 := ll.mpr q3
          have e3' := ll2.mpr q3
          simp [q1, eq_true q2, eq_true q3, eq_true e3, eq_true e3']
        · have e3 : ¬ (O.length : Int) = (w.length : Int) := fun z => q3 (ll.mp z)
          have e3' : ¬ O.length = w.length := fun z => q3 (ll2.mp z)
          simp [q1, eq_true q2, q3, e3, e3']
    · simp [q1, q2]
  · simp [q1]
theorem law_rest_val (ht : Tx t) (hw : Tx w) (w0 : 0 < w.length) (hl : t.length ≤ 1000) (hl2 : w.length ≤ 1000) {ah bh : Bool} : F__law_rest [dT t, dT w, .bl ah, .bl bh] = .ok (.bl (decide (t.length ≤ don2 t w ah bh))) (dT t) := by
  have hs1 : smallI 1 = true := by decide
  have hsn : smallI (t.length : Int) = true := small_of (by omega) (by omega)
  have mm : mulOk ((w.length : Int) - 1) (if ah = true then 1 else 0) = true := mulOk_small (by omega) (by omega)
  have e1 : (1 : Int) + ((w.length : Int) - 1) * (if ah = true then 1 else 0) = ((1 + (w.length - 1) * (if ah then 1 else 0) : Nat) : Int) := by
    cases ah <;> simp <;> omega
  have hs2 : smallI ((1 + (w.length - 1) * (if ah then 1 else 0) : Nat) : Int) = true := small_of (by omega) (by cases ah <;> simp <;> omega)
  obtain ⟨e', g1, y5, y6, y7, y8, rfl⟩ := for_fold (tg := tgN 5) (b := B__law_rest_l1) (φ := fun k : Nat => D.int (k : Int)) (fun (d : Nat) env => ∃ y5 y6 y7 y8, env = [some (dT t), some (dT w), some (.bl ah), some (.bl bh), some (.int (d : Int)), y5, y6, y7, y8]) (fun d o => if ownC t w bh o = true then max d (ownR t w bh o).length else d) (List.range' 1 ((w.length - 1) * if ah then 1 else 0)) 0 [some (dT t), some (dT w), some (.bl ah), some (.bl bh), some (.int 0), none, none, none, none] ⟨none, none, none, none, rfl⟩
    (fun d o env _ hr => by
      obtain ⟨y5, y6, y7, y8, rfl⟩ := hr
      obtain ⟨z7, r⟩ := rest_l1 ht hw hl hl2 (bh := bh) (o := o) (d := d) (x2 := some (.bl ah)) (x6 := y6) (x7 := y7) (x8 := y8)
      exact ⟨_, _, .nx, rfl, r, .inl rfl, some (.int (o : Int)), y6, z7, y8, rfl⟩)
  have hd1 : (List.range' 1 ((w.length - 1) * if ah then 1 else 0)).foldl (fun d o => if ownC t w bh o = true then max d (ownR t w bh o).length else d) 0 = don1 t w ah bh := rfl
  rw [hd1, ← rngN] at g1
  obtain ⟨e', g2, ⟨z5, z6, z7, z8, rfl⟩⟩ := for_fold (tg := tgN 6) (b := B__law_rest_l2) (φ := fun k : Nat => D.int (k : Int)) (fun (d : Nat) env => ∃ y5 y6 y7 y8, env = [some (dT t), some (dT w), some (.bl ah), some (.bl bh), some (.int (d : Int)), y5, y6, y7, y8]) (fun d p => if plB t w bh p = true then (if p ≤ d then p + w.length else d) else d) (List.range t.length) (don1 t w ah bh) [some (dT t), some (dT w), some (.bl ah), some (.bl bh), some (.int (don1 t w ah bh : Nat)), y5, y6, y7, y8] ⟨y5, y6, y7, y8, rfl⟩
    (fun d p env hm hr => by
      obtain ⟨y5, y6, y7, y8, rfl⟩ := hr
      obtain ⟨z7, z8, r⟩ := rest_l2 ht hw hl hl2 (bh := bh) (p := p) (d := d) (List.mem_range.mp hm) (x2 := some (.bl ah)) (x5 := y5) (x7 := y7) (x8 := y8)
      exact ⟨_, _, .nx, rfl, r, .inl rfl, y5, some (.int (p : Int)), z7, z8, rfl⟩)
  rw [fold_filter, ← rng0] at g2
  have hd2 : ((List.range t.length).filter (plB t w bh)).foldl (fun d p => if p ≤ d then p + w.length else d) (don1 t w ah bh) = don2 t w ah bh := rfl
  rw [hd2] at g2
  simp only [F__law_rest, r_runF, B__law_rest]
  have e3 : (((1 + (w.length - 1) * (if ah then 1 else 0) : Nat) : Int) - 1).toNat = (w.length - 1) * if ah then 1 else 0 := by omega
  have g1 : sForL (tgN 5) B__law_rest_l1 (rngD 1 ((w.length - 1) * if ah then 1 else 0)) [some (dT t), some (dT w), some (.bl ah), some (.bl bh), some (.int 0), none, none, none, none] = .ok .nx [some (dT t), some (dT w), some (.bl ah), some (.bl bh), some (.int (don1 t w ah bh : Nat)), y5, y6, y7, y8] := g1
  generalize 1 + (w.length - 1) * (if ah then 1 else 0) = N at e1 hs2 e3
  generalize (w.length - 1) * (if ah then 1 else 0) = N1 at g1 e3
  have z : decide ((t.length : Int) ≤ (don2 t w ah bh : Nat)) = decide (t.length ≤ don2 t w ah bh) := decide_eq_decide.mpr (by omega)
  simp [mm, e1, hs1, hs2, e3, g1, hsn, g2, z]
theorem is_covered_val (ht : Tx t) (hw : Tx w) (w0 : 0 < w.length) (hl : t.length ≤ 2000) (hl2 : w.length ≤ 2000) : F__law_is_covered [dT t, dT w] = .ok (.bl (decide (t.length ≤ reach w.length 0 (lies t w)))) (dT t) := by
  have hs : smallI ((t.length : Int) - (w.length : Int) + 1) = true := small_of (by omega) (by omega)
  have e1 : ((t.length : Int) - (w.length : Int) + 1).toNat = t.length + 1 - w.length := by omega
  obtain ⟨e', g1, y3, rfl⟩ := for_fold (tg := tgN 3) (b := B__law_is_covered_l1) (φ := fun k : Nat => D.int (k : Int)) (fun (d : Nat) env => ∃ y3, env = [some (dT t), some (dT w), some (.int (d : Int)), y3]) (fun d p => if decide ((t.drop p).take w.length = w) = true then (if p ≤ d then p + w.length else d) else d) (List.range (t.length + 1 - w.length)) 0 [some (dT t), some (dT w), some (.int 0), none] ⟨none, rfl⟩
    (fun d p env hm hr => by
      obtain ⟨y3, rfl⟩ := hr
      have cm : cutA t (some (p : Int)) (some ((p : Int) + (w.length : Int))) = (t.drop p).take w.length := cutA_mid2 t p w.length
      have eq := gEq_dT ((ht.drop p).take w.length).ok hw.ok
      refine ⟨_, _, .nx, rfl, ?_, .inl rfl, some (.int (p : Int)), rfl⟩
      generalize (t.drop p).take w.length = O at cm eq
      by_cases q : p ≤ d
      · have q' : (p : Int) ≤ d := by omega
        by_cases q2 : O = w
        · rw [decide_eq_true q2] at eq ⊢
          simp [B__law_is_covered_l1, q, q', cutA_map, cm, eq]
        · rw [decide_eq_false q2] at eq ⊢
          simp [B__law_is_covered_l1, q, q', cutA_map, cm, eq]
      · have q' : ¬ (p : Int) ≤ d := by omega
        simp [B__law_is_covered_l1, q, q'])
  rw [fold_filter, reach_fold, ← rng0] at g1
  have hl : (List.range (t.length + 1 - w.length)).filter (fun p => decide ((t.drop p).take w.length = w)) = lies t w := rfl
  rw [hl] at g1
  have g1 : sForL (tgN 3) B__law_is_covered_l1 (rngD 0 (t.length + 1 - w.length)) [some (dT t), some (dT w), some (.int 0), none] = .ok .nx [some (dT t), some (dT w), some (.int (reach w.length 0 (lies t w) : Nat)), y3] := g1
  simp only [F__law_is_covered, r_runF, B__law_is_covered]
  have z : decide ((t.length : Int) ≤ (reach w.length 0 (lies t w) : Nat)) = decide (t.length ≤ reach w.length 0 (lies t w)) := decide_eq_decide.mpr (by omega)
  simp [hs, e1, g1, z]
end
end Ov
namespace Ov
open PySem (Str PyData)
open MV
theorem for_any {α : Type} {tg : D → M Unit} {b : M Fl} {φ : α → D} {v : D} (I : PEnv → Prop) (p : α → Bool) : ∀ (l : List α) (e : PEnv), I e → (∀ x ∈ l, ∀ e, I e → ∃ e1, tg (φ x) e = .ok () e1 ∧ ∃ e2, I e2 ∧ b e1 = if p x = true then .ok (.rt v) e2 else .ok .nx e2) →
    ∃ e', I e' ∧ sForL tg b (l.map φ) e = if l.any p = true then .ok (.rt v) e' else .ok .nx e'
  | [], e, h0, _ => ⟨e, h0, rfl⟩
  | x :: l, e, h0, hs => by
    obtain ⟨e1, h1, e2, h2, h3⟩ := hs x List.mem_cons_self e h0
    rw [List.map_cons, sForL, bnd_of_ok h1]
    cases q : p x with
    | true =>
      rw [q, if_pos rfl] at h3
      refine ⟨e2, h2, ?_⟩
      rw [bnd_of_ok h3, List.any_cons, q]
      rfl
    | false =>
      rw [q, if_neg (by decide)] at h3
      obtain ⟨e', h4, h5⟩ := for_any I p l e2 h2 fun y hy => hs y (List.mem_cons_of_mem _ hy)
      refine ⟨e', h4, ?_⟩
      rw [bnd_of_ok h3, List.any_cons, q, Bool.false_or]
      exact h5
section
variable {t w : List Str}
def trC (t w : List Str) (a b : Nat) : List Str := w.take a ++ t ++ w.drop (w.length - b)
def cvd (t w : List Str) : Bool := decide (t.length ≤ reach w.length 0 (lies t w))
def trV (t w : List Str) (ah bh : Bool) : Bool := (List.range (1 + (w.length - 1) * if ah then 1 else 0)).any fun a => (List.range (1 + (w.length - 1) * if bh then 1 else 0)).any fun b => cvd (trC t w a b) w
theorem cvd_iff {t w : List Str} : cvd t w = true ↔ ∀ j, j < t.length → ∃ q ∈ lies t w, q ≤ j ∧ j < q + w.length := by
  unfold cvd
  have hs := srt_lies t w
  rw [decide_eq_true_iff, ← reach_max w.length _ 0 hs (fun p _ => by omega)]
  have e : (lies t w).foldl (fun r p => if p ≤ r then max r (p + w.length) else r) 0 = cam w.length 0 (lies t w) := rfl
  rw [e, cam_iff hs]
  refine forall_congr' fun i => forall_congr' fun hi => ?_
  simp
theorem lies_split {e X Y : List Str} (h : e = X ++ w ++ Y) : X.length ∈ lies e w := by
  rw [mem_lies_iff, h]
  constructor
  · rw [List.length_append, List.length_append]; omega
  · rw [List.append_assoc, List.drop_append_of_le_length (Nat.le_refl _), List.drop_length, List.nil_append, List.take_append_of_le_length (Nat.le_refl _), List.take_length]
theorem lies_parts {p : Nat} (h : p ∈ lies t w) : t = t.take p ++ w ++ t.drop (p + w.length) := by
  obtain ⟨h1, h2⟩ := mem_lies_iff.mp h
  have a : t = t.take p ++ t.drop p := (List.take_append_drop p t).symm
  have b : t.drop p = (t.drop p).take w.length ++ (t.drop p).drop w.length := (List.take_append_drop _ _).symm
  rw [h2, List.drop_drop] at b
  rw [List.append_assoc]
  conv => lhs; rw [a, b]
theorem trC_at {a b : Nat} (ha : a ≤ w.length) {j : Nat} (h1 : a ≤ j) (h2 : j < a + t.length) : (trC t w a b)[j]? = t[j - a]? := by
  unfold trC
  have la : (w.take a).length = a := by rw [List.length_take]; omega
  rw [List.append_assoc, List.getElem?_append_right (by omega), la, List.getElem?_append_left (by omega)]
theorem lies_get {e : List Str} {q r : Nat} (h : q ∈ lies e w) (hr : r < w.length) : e[q + r]? = w[r]? := by
  obtain ⟨_, h2⟩ := mem_lies_iff.mp h
  have := congrArg (fun l => l[r]?) h2
  simp only [List.getElem?_take, List.getElem?_drop, if_pos hr] at this
  exact this
theorem trV_of (w0 : 0 < w.length) {ah bh : Bool} (h : trV t w ah bh = true) : RAst t w ah bh := by
  unfold trV at h
  rw [List.any_eq_true] at h
  obtain ⟨a, h1, h⟩ := h
  rw [List.any_eq_true] at h
  obtain ⟨b, h2, h⟩ := h
  rw [List.mem_range] at h1 h2
  have a1 : a < w.length ∧ (a ≠ 0 → ah = true) := by cases ah <;> simp at h1 ⊢ <;> omega
  have b1 : b < w.length ∧ (b ≠ 0 → bh = true) := by cases bh <;> simp at h2 ⊢ <;> omega
  have le : (trC t w a b).length = a + t.length + b := by
    unfold trC
    rw [List.length_append, List.length_append, List.length_take, List.length_drop]; omega
  intro i hi
  obtain ⟨q, q1, q2, q3⟩ := cvd_iff.mp h (a + i) (by omega)
  have ql := (mem_lies_iff.mp q1).1
  by_cases z : a ≤ q
  · right
    refine ⟨q - a, ⟨by omega, ?_⟩, ?_, by omega, by omega⟩
    · apply List.ext_getElem?
      intro x
      rw [List.getElem?_take, List.getElem?_drop, List.getElem?_take]
      by_cases x1 : x < w.length
      · rw [if_pos x1]
        by_cases x2 : x < t.length - (q - a)
        · rw [if_pos x2]
          have := lies_get q1 x1
          rw [trC_at (by omega) (by omega) (by omega)] at this
          rw [← this]; congr 1; omega
        · rw [if_neg x2, List.getElem?_eq_none (by omega)]
      · rw [if_neg x1]
        split
        · rw [List.getElem?_eq_none (by omega)]
        · rfl
    · by_cases n : q - a + w.length ≤ t.length
      · exact .inl n
      · exact .inr (b1.2 (by omega))
  · left
    refine ⟨a1.2 (by omega), q + w.length - a, ⟨by omega, by omega, ?_⟩, ?_, by omega⟩
    · apply List.ext_getElem?
      intro x
      rw [List.getElem?_take, List.getElem?_drop, List.getElem?_take, show w.length - (q + w.length - a) + x = a - q + x by omega]
      by_cases x1 : x < t.length
      · rw [if_pos x1]
        by_cases x2 : x < q + w.length - a
        · rw [if_pos x2]
          have := lies_get q1 (r := a - q + x) (by omega)
          rw [← this, trC_at (by omega) (by omega) (by omega)]
          congr 1; omega
        · rw [if_neg x2, List.getElem?_eq_none (by omega)]
      · rw [if_neg x1]
        split
        · rw [List.getElem?_eq_none (by omega)]
        · rfl
    · by_cases n : q + w.length - a ≤ t.length
      · exact .inl n
      · exact .inr (b1.2 (by omega))
theorem of_trV (t0 : 0 < t.length) (w0 : 0 < w.length) {ah bh : Bool} (h : RAst t w ah bh) : trV t w ah bh = true := by
  have give : ∀ a b, a < w.length → b < w.length → (a ≠ 0 → ah = true) → (b ≠ 0 → bh = true) → cvd (trC t w a b) w = true → trV t w ah bh = true := fun a b a1 b1 a2 b2 hc => by
    unfold trV
    rw [List.any_eq_true]
    refine ⟨a, ?_, ?_⟩
    · rw [List.mem_range]
      cases ah with
      | true => simp; omega
      | false =>
        have : a = 0 := by
          by_cases z : a = 0
          · exact z
          · exact absurd (a2 z) (by decide)
        subst this; simp
    · rw [List.any_eq_true]
      refine ⟨b, ?_, hc⟩
      rw [List.mem_range]
      cases bh with
      | true => simp; omega
      | false =>
        have : b = 0 := by
          by_cases z : b = 0
          · exact z
          · exact absurd (b2 z) (by decide)
        subst this; simp
  by_cases W : ah = true ∧ bh = true ∧ ∃ k, ngv t w k ∧ t.length < k
  · obtain ⟨hah, hbh, k, ⟨k1, k2, k3⟩, k4⟩ := W
    refine give (w.length - k) (k - t.length) (by omega) (by omega) (fun _ => hah) (fun _ => hbh) ?_
    have e : trC t w (w.length - k) (k - t.length) = w := by
      unfold trC
      have : t = (w.drop (w.length - k)).take t.length := by rw [k3, List.take_of_length_le (by omega)]
      conv => lhs; lhs; rhs; rw [this]
      rw [List.append_assoc, show w.length - (k - t.length) = w.length - k + t.length by omega, ← List.drop_drop, List.take_append_drop, List.take_append_drop]
    rw [e]
    rw [cvd_iff]
    intro j hj
    refine ⟨0, ?_, by omega, by omega⟩
    rw [lies_self]; exact List.mem_singleton.mpr rfl
  · obtain ⟨K, hK⟩ : ∃ K, K = if ah then ha t w else 0 := ⟨_, rfl⟩
    obtain ⟨Q, hQ⟩ : ∃ Q, Q = if bh then hb t w else 0 := ⟨_, rfl⟩
    have Kp : K ≠ 0 → ah = true ∧ ngv t w K ∧ K ≤ t.length := fun z => by
      cases ah with
      | false => rw [if_neg (by decide)] at hK; exact absurd hK z
      | true =>
        rw [if_pos rfl] at hK
        obtain ⟨p1, p2⟩ := ha_ngv (t := t) (w := w) (by rw [← hK]; exact z)
        rw [← hK] at p1 p2
        exact ⟨rfl, p1, p2⟩
    have Qp : Q ≠ 0 → bh = true ∧ psv t w (t.length - Q) ∧ Q ≤ t.length ∧ Q < w.length := fun z => by
      cases bh with
      | false => rw [if_neg (by decide)] at hQ; exact absurd hQ z
      | true =>
        rw [if_pos rfl] at hQ
        obtain ⟨p1, p2, p3⟩ := hb_psv (t := t) (w := w) (by rw [← hQ]; exact z)
        have := hb_le t w
        rw [← hQ] at p1 p2 p3 this
        exact ⟨rfl, p1, this, by omega⟩
    obtain ⟨a, hA⟩ : ∃ a, a = if K = 0 then 0 else w.length - K := ⟨_, rfl⟩
    obtain ⟨b, hB⟩ : ∃ b, b = if Q = 0 then 0 else w.length - Q := ⟨_, rfl⟩
    have a0 : K ≠ 0 → a = w.length - K ∧ K < w.length := fun z => by
      have := (Kp z).2.1.2.1
      rw [if_neg z] at hA
      exact ⟨hA, this⟩
    have b0 : Q ≠ 0 → b = w.length - Q := fun z => by rw [if_neg z] at hB; exact hB
    have a00 : K = 0 → a = 0 := fun z => by rw [if_pos z] at hA; exact hA
    have b00 : Q = 0 → b = 0 := fun z => by rw [if_pos z] at hB; exact hB
    have la : a < w.length := by
      by_cases z : K = 0
      · rw [a00 z]; exact w0
      · have := a0 z; omega
    have lb : b < w.length := by
      by_cases z : Q = 0
      · rw [b00 z]; exact w0
      · have := b0 z; omega
    refine give a b la lb (fun z => ?_) (fun z => ?_) ?_
    · exact (Kp fun y => z (a00 y)).1
    · exact (Qp fun y => z (b00 y)).1
    · have le : (trC t w a b).length = a + t.length + b := by
        unfold trC
        rw [List.length_append, List.length_append, List.length_take, List.length_drop]; omega
      have ltA : (w.take a).length = a := by rw [List.length_take]; omega
      have occ0 : K ≠ 0 → 0 ∈ lies (trC t w a b) w := fun z => by
        obtain ⟨k1, k2⟩ := a0 z
        obtain ⟨_, ⟨_, _, k3⟩, k4⟩ := Kp z
        rw [List.take_of_length_le (l := w.drop _) (by rw [List.length_drop]; omega)] at k3
        refine lies_split (X := []) (Y := t.drop K ++ w.drop (w.length - b)) ?_
        unfold trC
        have e1 : t = t.take K ++ t.drop K := (List.take_append_drop K t).symm
        have e2 : w = w.take (w.length - K) ++ w.drop (w.length - K) := (List.take_append_drop _ w).symm
        rw [k3] at e2
        rw [k1, List.nil_append]
        conv => lhs; lhs; rhs; rw [e1]
        conv => rhs; lhs; rw [e2]
        simp only [List.append_assoc]
      have occp : ∀ p, p ∈ lies t w → a + p ∈ lies (trC t w a b) w := fun p hp => by
        have e1 := lies_parts hp
        have pl := (mem_lies_iff.mp hp).1
        have e2 : (w.take a ++ t.take p).length = a + p := by rw [List.length_append, ltA, List.length_take]; omega
        have := lies_split (w := w) (e := trC t w a b) (X := w.take a ++ t.take p) (Y := t.drop (p + w.length) ++ w.drop (w.length - b)) (by
          unfold trC
          conv => lhs; lhs; rhs; rw [e1]
          simp only [List.append_assoc])
        rw [e2] at this
        exact this
      have occe : Q ≠ 0 → a + (t.length - Q) ∈ lies (trC t w a b) w := fun z => by
        obtain ⟨_, ⟨_, q1⟩, q2, q3⟩ := Qp z
        have bq := b0 z
        have e2 : (w.take a ++ t.take (t.length - Q)).length = a + (t.length - Q) := by rw [List.length_append, ltA, List.length_take]; omega
        rw [List.take_of_length_le (l := t.drop _) (by rw [List.length_drop]; omega), show t.length - (t.length - Q) = Q by omega] at q1
        have e1 : t = t.take (t.length - Q) ++ w.take Q := by rw [← q1, List.take_append_drop]
        have := lies_split (w := w) (e := trC t w a b) (X := w.take a ++ t.take (t.length - Q)) (Y := []) (by
          unfold trC
          conv => lhs; lhs; rhs; rw [e1]
          rw [show w.length - b = Q by omega, List.append_nil]
          simp only [List.append_assoc, List.take_append_drop])
        rw [e2] at this
        exact this
      rw [cvd_iff]
      intro j hj
      by_cases j1 : j < a
      · have kz : K ≠ 0 := fun z => by rw [a00 z] at j1; omega
        exact ⟨0, occ0 kz, by omega, by omega⟩
      · by_cases j2 : j < a + t.length
        · rcases h (j - a) (by omega) with ⟨hah, k, h1, h2, h3⟩ | ⟨p, h1, h2, h3, h4⟩
          · by_cases kn : k ≤ t.length
            · have km := ha_max h1 kn
              rw [hah, if_pos rfl] at hK
              have kz : K ≠ 0 := by omega
              have := a0 kz
              exact ⟨0, occ0 kz, by omega, by omega⟩
            · rcases h2 with h2 | h2
              · omega
              · exact absurd ⟨hah, h2, k, h1, by omega⟩ W
          · by_cases pn : p + w.length ≤ t.length
            · exact ⟨a + p, occp p ((psv_lies pn w0).mp h1), by omega, by omega⟩
            · rcases h2 with h2 | h2
              · omega
              · have := hb_max h1.1 (by omega) h1
                rw [h2, if_pos rfl] at hQ
                have qz : Q ≠ 0 := by have := h1.1; omega
                have := Qp qz
                exact ⟨_, occe qz, by omega, by omega⟩
        · have qz : Q ≠ 0 := fun z => by have := b00 z; omega
          have := Qp qz
          have := b0 qz
          exact ⟨_, occe qz, by omega, by omega⟩
theorem trV_iff (t0 : 0 < t.length) (w0 : 0 < w.length) {ah bh : Bool} : trV t w ah bh = true ↔ RAst t w ah bh := ⟨trV_of w0, of_trV t0 w0⟩
theorem by_trial_val (ht : Tx t) (hw : Tx w) (w0 : 0 < w.length) (hl : t.length ≤ 300) (hl2 : w.length ≤ 300) {ah bh : Bool} : F__law_by_trial [dT t, dT w, .bl ah, .bl bh] = .ok (.bl (trV t w ah bh)) (dT t) := by
  have mm : ∀ x : Bool, mulOk ((w.length : Int) - 1) (if x = true then 1 else 0) = true := fun x => mulOk_small (by omega) (by omega)
  have e1 : ∀ x : Bool, (1 : Int) + ((w.length : Int) - 1) * (if x = true then 1 else 0) = ((1 + (w.length - 1) * (if x then 1 else 0) : Nat) : Int) := fun x => by
    cases x <;> simp <;> omega
  have bd : ∀ x : Bool, 1 + (w.length - 1) * (if x then 1 else 0) ≤ w.length := fun x => by cases x <;> simp <;> omega
  have hs : ∀ x : Bool, smallI ((1 + (w.length - 1) * (if x then 1 else 0) : Nat) : Int) = true := fun x => small_of (by omega) (by have := bd x; omega)
  have inner : ∀ (a : Nat), a < w.length → ∀ y5 y6, ∃ z5 z6, B__law_by_trial_l2 [some (dT t), some (dT w), some (.bl ah), some (.bl bh), some (.int (a : Int)), y5, y6] = (if ((List.range (1 + (w.length - 1) * if bh then 1 else 0)).any fun b => cvd (trC t w a b) w) = true then .ok (.rt (.bl true)) [some (dT t), some (dT w), some (.bl ah), some (.bl bh), some (.int (a : Int)), z5, z6] else .ok .nx [some (dT t), some (dT w), some (.bl ah), some (.bl bh), some (.int (a : Int)), z5, z6]) := by
    intro a la y5 y6
    obtain ⟨e', ⟨z5, z6, rfl⟩, g⟩ := for_any (tg := tgN 5) (b := B__law_by_trial_l1) (φ := fun k : Nat => D.int (k : Int)) (v := .bl true) (fun e => ∃ z5 z6, e = [some (dT t), some (dT w), some (.bl ah), some (.bl bh), some (.int (a : Int)), z5, z6]) (fun b => cvd (trC t w a b) w) (List.range (1 + (w.length - 1) * if bh then 1 else 0)) [some (dT t), some (dT w), some (.bl ah), some (.bl bh), some (.int (a : Int)), y5, y6] ⟨y5, y6, rfl⟩
      (fun b hb e he => by
        obtain ⟨z5, z6, rfl⟩ := he
        rw [List.mem_range] at hb
        have := bd bh
        have e2 : (w.length : Int) - (b : Int) = ((w.length - b : Nat) : Int) := by omega
        have c1 := cutA_from w (w.length - b)
        have c2 := cutA_to w a
        have iv := is_covered_val (t := trC t w a b) (w := w) (((hw.take a).append ht).append (hw.drop _)) hw w0 (by unfold trC; rw [List.length_append, List.length_append, List.length_take, List.length_drop]; omega) (by omega)
        have ev : decide ((trC t w a b).length ≤ reach w.length 0 (lies (trC t w a b) w)) = cvd (trC t w a b) w := rfl
        rw [ev] at iv
        refine ⟨_, rfl, [some (dT t), some (dT w), some (.bl ah), some (.bl bh), some (.int (a : Int)), some (.int (b : Int)), some (dT (w.drop (w.length - b)))], ⟨_, _, rfl⟩, ?_⟩
        have L1 : (w.take a).length + t.length ≤ LIM := by rw [List.length_take]; show _ ≤ 100000; omega
        have L2 : (w.take a ++ t).length + (w.drop (w.length - b)).length ≤ LIM := by rw [List.length_append, List.length_take, List.length_drop]; show _ ≤ 100000; omega
        have hT : trC t w a b = w.take a ++ t ++ w.drop (w.length - b) := rfl
        generalize trC t w a b = C at iv hT
        generalize w.take a = A at c2 L1 L2 hT
        generalize w.drop (w.length - b) = B at c1 L2 hT
        generalize hS : A ++ t = S at L2 hT
        have mS : A.map D.str ++ t.map D.str = S.map D.str := by rw [← hS, List.map_append]
        have mW : S.map D.str ++ B.map D.str = C.map D.str := by rw [hT, List.map_append]
        cases q : cvd C w with
        | true =>
          rw [q] at iv
          simp [B__law_by_trial_l1, e2, cutA_map, c1, c2, L1, mS, L2, mW, iv, -List.map_append]
        | false =>
          rw [q] at iv
          simp [B__law_by_trial_l1, e2, cutA_map, c1, c2, L1, mS, L2, mW, iv, -List.map_append])
    refine ⟨z5, z6, ?_⟩
    rw [← rng0] at g
    have hs := hs bh
    have e1 := e1 bh
    generalize hN : 1 + (w.length - 1) * (if bh then 1 else 0) = N at g hs e1
    rw [← g]
    simp [B__law_by_trial_l2, mm, e1, hs]
  obtain ⟨e', ⟨y4, y5, y6, rfl⟩, g⟩ := for_any (tg := tgN 4) (b := B__law_by_trial_l2) (φ := fun k : Nat => D.int (k : Int)) (v := .bl true) (fun e => ∃ y4 y5 y6, e = [some (dT t), some (dT w), some (.bl ah), some (.bl bh), y4, y5, y6]) (fun a => (List.range (1 + (w.length - 1) * if bh then 1 else 0)).any fun b => cvd (trC t w a b) w) (List.range (1 + (w.length - 1) * if ah then 1 else 0)) [some (dT t), some (dT w), some (.bl ah), some (.bl bh), none, none, none] ⟨none, none, none, rfl⟩
    (fun a ha e he => by
      obtain ⟨y4, y5, y6, rfl⟩ := he
      rw [List.mem_range] at ha
      have := bd ah
      obtain ⟨z5, z6, r⟩ := inner a (by omega) y5 y6
      exact ⟨_, rfl, _, ⟨some (.int (a : Int)), z5, z6, rfl⟩, r⟩)
  rw [← rng0] at g
  have hT : ((List.range (1 + (w.length - 1) * if ah then 1 else 0)).any fun a => (List.range (1 + (w.length - 1) * if bh then 1 else 0)).any fun b => cvd (trC t w a b) w) = trV t w ah bh := rfl
  rw [hT] at g
  simp only [F__law_by_trial, r_runF, B__law_by_trial]
  have hs := hs ah
  have e1 := e1 ah
  generalize hN : 1 + (w.length - 1) * (if ah then 1 else 0) = N at g hs e1
  cases q : trV t w ah bh with
  | true => rw [q] at g; simp [mm, e1, hs, g]
  | false => rw [q] at g; simp [mm, e1, hs, g]
end
end Ov
namespace Ov
open PySem (Str PyData)
open MV
inductive Nm : Str → Str → Prop
  | word : Nm (Str.ofString "NoWord") (Str.ofString "word")
  | sign : Nm (Str.ofString "NoSign") (Str.ofString "sign")
  | text : Nm (Str.ofString "NoText") (Str.ofString "text")
  | cover : Nm (Str.ofString "NoCover") (Str.ofString "cover")
  | many : Nm (Str.ofString "TooMany") (Str.ofString "many")
theorem Gd.filter {t : List Str} (h : Gd t) (p : Str → Bool) : Gd (t.filter p) := fun x hx => h x (List.mem_filter.mp hx).1
theorem Gd.take {t : List Str} (h : Gd t) (k : Nat) : Gd (t.take k) := fun x hx => h x (List.mem_of_mem_take hx)
theorem Gd.drop {t : List Str} (h : Gd t) (k : Nat) : Gd (t.drop k) := fun x hx => h x (List.mem_of_mem_drop hx)
end Ov
namespace Ov
open PySem (Str PyData)
open MV
theorem cell_at_ok (ns : List Int) (k : Nat) : ∃ x io, F__law_cell_at [.lst (ns.map .int), .int (k : Int)] = .ok (.int x) io := by
  by_cases q : k < ns.length
  · have q' : (k : Int) < (ns.length : Int) := by omega
    have h1 : L2.atI (ns.map D.int) (k : Int) = some (.int ns[k]) := by rw [atI_eq, List.getElem?_map, List.getElem?_eq_getElem q]; rfl
    refine ⟨ns[k], .lst (ns.map .int), ?_⟩
    simp only [F__law_cell_at, r_runF, B__law_cell_at]
    simp [q, q', h1]
  · have q' : ¬ (k : Int) < (ns.length : Int) := by omega
    refine ⟨0, .lst (ns.map .int), ?_⟩
    simp only [F__law_cell_at, r_runF, B__law_cell_at]
    simp [q, q']
theorem cells_seq (ns : List Int) (hl : ns.length ≤ 63) (m : Nat) : ∃ cs : List Int, ∀ (xs : List (Option D)), (iL (e2 gAdd (eSlQ 0 oNone (oSome (eC (.int (m : Int))))) (eN gLst (aCons (eCallQ F__law_cell_at 0 (aCons (eC (.int 0)) aNil)) aNil)))) (some (.lst (ns.map .int)) :: xs) = .ok (cs.map .int) (some (.lst (ns.map .int)) :: xs) := by
  obtain ⟨x, io, h⟩ := cell_at_ok ns 0
  have h : F__law_cell_at [.lst (ns.map .int), .int 0] = .ok (.int x) io := h
  have z1 : (1 : Nat) ≤ PySem.sizeLine := by decide
  have hc := cutA_len ns none (some (m : Int))
  have L1 : (cutA ns none (some (m : Int))).length + 1 ≤ LIM := by show _ ≤ 100000; omega
  refine ⟨cutA ns none (some (m : Int)) ++ [x], fun xs => ?_⟩
  simp [cutA_map, List.all_map, h, z1, L1]
end Ov
namespace Ov
open PySem (Str PyData)
open MV
end Ov
namespace Ov
open PySem (Str)
open MV
def PL (P : Nat → Nat → Prop) (L : List Nat) (n : Nat) : Prop := L.length = n ∧ ∀ m, m < n → ∃ g, L[m]? = some g ∧ P (m + 1) g
theorem PL.at {P : Nat → Nat → Prop} {L : List Nat} {n m : Nat} (h : PL P L n) (hm : m < n) : ∃ g : Nat, L2.atI (L.map fun k : Nat => D.int (k : Int)) (m : Int) = some (.int (g : Nat)) ∧ P (m + 1) g := by
  obtain ⟨g, g1, g2⟩ := h.2 m hm
  have hgl : m < L.length := by rw [h.1]; exact hm
  refine ⟨g, ?_, g2⟩
  rw [dN_at hgl]
  rw [List.getElem?_eq_getElem hgl] at g1; rw [Option.some.inj g1]
def rho (t : List Str) (s e : Nat) : Nat := if s ≤ e then (if s = 0 then 0 else rch t s e) else s
end Ov
namespace Ov
open PySem (Str)
open MV
def RL (t : List Str) (e k : Nat) (Rl : List Nat) : Prop := Rl.length = t.length + 1 ∧ ∀ s, s ≤ t.length → ∃ x, Rl[s]? = some x ∧ (isB t (e + 1) s ∧ k < s → x = rho t s (e + 1)) ∧ (¬ (isB t (e + 1) s ∧ k < s) → x = rho t s e)
theorem RL.step {t : List Str} {e k k' y : Nat} {Rl : List Nat} (h : RL t e k Rl) (hk : isB t (e + 1) k) (hg : isG t k k') (hy : y = rho t k (e + 1)) : RL t e k' (Rl.set k y) := by
  refine ⟨by rw [List.length_set]; exact h.1, fun s hs => ?_⟩
  have hkl : k < Rl.length := by rw [h.1]; have := hk.1; have := hk.2.1; omega
  have hlt := hg.1.1
  by_cases c : s = k
  · subst c
    refine ⟨y, by rw [List.getElem?_set_self hkl], fun _ => hy, fun q => absurd ⟨hk, hlt⟩ q⟩
  · obtain ⟨x, x1, x2, x3⟩ := h.2 s hs
    refine ⟨x, by rw [List.getElem?_set_ne (Ne.symm c)]; exact x1, fun q => ?_, fun q => ?_⟩
    · refine x2 ⟨q.1, ?_⟩
      by_cases d : s < k
      · have := hg.2 s (isB_down hk q.1 d); omega
      · omega
    · exact x3 fun z => q ⟨z.1, by omega⟩
end Ov
namespace Ov
open PySem (Str PyData)
open MV
end Ov
namespace Ov
open PySem (Str PyData)
open MV
section
variable {t w : List Str}
theorem rest_same (t0 : 0 < t.length) (w0 : 0 < w.length) : decide (t.length ≤ don2 t w false true) = rbV t w ∧ decide (t.length ≤ don2 t w true false) = raV t w ∧ decide (t.length ≤ don2 t w true true) = cbV t w := by
  refine ⟨?_, ?_, ?_⟩
  · rw [Bool.eq_iff_iff, decide_eq_true_iff, don2_iff w0, rbV_iff w0]
  · rw [Bool.eq_iff_iff, decide_eq_true_iff, don2_iff w0, raV_iff w0]
  · rw [Bool.eq_iff_iff, decide_eq_true_iff, don2_iff w0, cbV_iff t0 w0]
theorem trial_same (t0 : 0 < t.length) (w0 : 0 < w.length) : trV t w false true = rbV t w ∧ trV t w true false = raV t w ∧ trV t w true true = cbV t w := by
  refine ⟨?_, ?_, ?_⟩
  · rw [Bool.eq_iff_iff, trV_iff t0 w0, rbV_iff w0]
  · rw [Bool.eq_iff_iff, trV_iff t0 w0, raV_iff w0]
  · rw [Bool.eq_iff_iff, trV_iff t0 w0, cbV_iff t0 w0]
def b3 (t w : List Str) : D := .lst [.bl (rbV t w), .bl (raV t w), .bl (cbV t w)]
end
end Ov
namespace Ov
open PySem (Str)
open MV
def Ql (t : List Str) (s e x : Nat) : Prop := (x = 0 ∧ ∀ s', s' ≤ s → ¬ Cvr t s' e) ∨ (x ≤ s ∧ Cvr t x e ∧ ∀ s', Cvr t s' e → x ≤ s')
def Qg (t : List Str) (s e x : Nat) : Prop := (x = 0 ∨ (x < e ∧ Cvr t x e)) ∧ ∀ s', s' ≤ s → s' < e → Cvr t s' e → s' ≤ x
section
variable {t : List Str} {s e x : Nat}
theorem Ql.upd (hs : 1 ≤ s) (hc : Cvr t s e) (h : Ql t (s - 1) e x ∨ Ql t s e x) : Ql t s e (if x = 0 then s else x) := by
  have nz : ∀ {u : Nat}, Cvr t u e → u ≠ 0 := fun h => by have := h.1; omega
  by_cases c : x = 0
  · rw [if_pos c]
    refine .inr ⟨Nat.le_refl _, hc, fun s' h' => ?_⟩
    rcases h with (h | h) | (h | h)
    · by_cases d : s ≤ s'
      · exact d
      · exact absurd h' (h.2 s' (by omega))
    · exact absurd c (nz h.2.1)
    · exact absurd hc (h.2 s (Nat.le_refl _))
    · exact absurd c (nz h.2.1)
  · rw [if_neg c]
    rcases h with (h | h) | (h | h)
    · exact absurd h.1 c
    · exact .inr ⟨by omega, h.2⟩
    · exact absurd h.1 c
    · exact .inr h
theorem Qg.upd (hs : 1 ≤ s) (hc : Cvr t s e) (h : Qg t (s - 1) e x ∨ Qg t s e x) : Qg t s e (if s < e then s else x) := by
  by_cases c : s < e
  · rw [if_pos c]
    exact ⟨.inr ⟨c, hc⟩, fun s' h1 _ _ => h1⟩
  · rw [if_neg c]
    have := hc.2.1
    rcases h with h | h
    · exact ⟨h.1, fun s' h1 h2 h3 => h.2 s' (by omega) h2 h3⟩
    · exact h
end
def Mid (Q : Nat → Nat → Nat → Prop) (s : Nat) (E : List Nat) (A : List Nat) (n : Nat) : Prop := A.length = n ∧ ∀ m, m < n → ∃ x, A[m]? = some x ∧ (Q (s - 1) (m + 1) x ∨ Q s (m + 1) x) ∧ (m + 1 ∈ E → Q s (m + 1) x)
theorem Mid.set {Q : Nat → Nat → Nat → Prop} {s m n : Nat} {E A : List Nat} (h : Mid Q s E A n) (hm : m < n) {y : Nat} (hy : Q s (m + 1) y) : Mid Q s (E ++ [m + 1]) (A.set m y) n := by
  refine ⟨by rw [List.length_set]; exact h.1, fun k hk => ?_⟩
  by_cases c : m = k
  · subst c
    exact ⟨y, by rw [List.getElem?_set_self (by rw [h.1]; exact hm)], .inr hy, fun _ => hy⟩
  · obtain ⟨x, x1, x2, x3⟩ := h.2 k hk
    refine ⟨x, by rw [List.getElem?_set_ne c]; exact x1, x2, fun z => ?_⟩
    rcases List.mem_append.mp z with z | z
    · exact x3 z
    · exact absurd (List.mem_singleton.mp z) (by omega)
end Ov
namespace MV
open PySem PySem.Spec PyProof.Rows L2
def PostO (cf : Cf) (W : WX) (R : Rs) (Hs : Hp) (i : Nat) (D : Ends) : Res Fl → Prop
  | .ok (.rt d) env' => ∀ v Hs' σ' H' F' wf', Ex Hs Hs' → Rel cf R Hs' env' σ' H' F' wf' → Own cf.K emp H' (F' i) v d → D.rt v H'
  | .ok .nx env' => ∀ Hs' σ' H' F' wf', Ex Hs Hs' → Rel cf R Hs' env' σ' H' F' wf' → D.nx σ' H'
  | .ex x env' => ∀ Hs' σ' H' F' wf', Ex Hs Hs' → Rel cf R Hs' env' σ' H' F' wf' → W (cf.cv x) none σ' H'
  | _ => False
theorem PostO.mono {cf : Cf} {W : WX} {R : Rs} {i : Nat} {Hs Hs' : Hp} {D : Ends} (e : Ex Hs Hs') : ∀ {g : Res Fl}, PostO cf W R Hs i D g → PostO cf W R Hs' i D g
  | .ok (.rt d) _, h => fun v Hs2 σ' H' F' wf' e2 r o => h v Hs2 σ' H' F' wf' (e.trans e2) r o
  | .ex _ _, h => fun Hs2 σ' H' F' wf' e2 r => h Hs2 σ' H' F' wf' (e.trans e2) r
  | .ok .nx _, h => fun Hs2 σ' H' F' wf' e2 r => h Hs2 σ' H' F' wf' (e.trans e2) r
  | .ok .bk _, h => h.elim
  | .ok .ct _, h => h.elim
  | .stuck, h => h.elim
def sSeqO (a b : M Fl) : M Fl := bnd a fun f => match f with
  | .nx => b
  | _ => fail
def sRetO (i : Nat) : M Fl := fun e => match e[i]? with
  | some (some d) => .ok (.rt d) e
  | _ => .stuck
section
variable {X : Cx} {cf : Cf} {W : WX} {c : Cls} {n n1 n2 : Bool} {i j : Nat}
end
section
variable {P : Program} {w : World} {K : PySem.W.Frag} {mg : Str → Option Value} {base : Heap}
end
end MV
namespace MV
open PySem PySem.Spec PyProof.Rows L2
def lst2 (i k : Nat) (e : PEnv) : Option (List D × List D) := match e[i]? with
  | some (some (.lst ds)) => match ds[k]? with
    | some (.lst es) => some (ds, es)
    | _ => none
  | _ => none
theorem lst2_some {i k : Nat} {e : PEnv} {ds es : List D} (h : lst2 i k e = some (ds, es)) : e[i]? = some (some (.lst ds)) ∧ ds[k]? = some (.lst es) := by
  unfold lst2 at h
  split at h
  · rename_i q
    split at h
    · rename_i q2; cases h; exact ⟨q, q2⟩
    · cases h
  · cases h
def askRow (i j : Nat) (a : M Fl) (k : Nat) : M Fl := fun e => match lst2 i k e with
  | some (_, es) => match a (e.set j (some (.lst es))) with
    | .ok f e1 => .ok f (e1.set j none)
    | .ex x e1 => .ex x (e1.set j none)
    | .stuck => .stuck
  | none => .stuck
def appR (i k : Nat) (x : D) : M Fl := fun e => match lst2 i k e with
  | some (ds, es) => if x.sc && decide (es.length < LIM) then .ok .nx (e.set i (some (.lst (ds.set k (.lst (es ++ [x])))))) else .stuck
  | none => .stuck
def appRow (i : Nat) (f : M D) (k : Nat) : M Fl := fun e => match lst2 i k e with
  | some _ => bnd f (appR i k) e
  | none => .stuck
def foGo (q : Nat → M Fl) : Nat → Nat → M Fl
  | 0, _ => ret .nx
  | m + 1, k => bnd (q k) fun f => match f with
    | .nx => foGo q m (k + 1)
    | .rt d => ret (.rt d)
    | _ => fail
def sForO (i j : Nat) (q : Nat → M Fl) : M Fl := fun e => match e[i]? with
  | some (some (.lst ds)) => if j < e.length then foGo q ds.length 0 (e.set j none) else .stuck
  | _ => .stuck
def PostB (cf : Cf) (W : WX) (R : Rs) (Hs : Hp) (j : Nat) (σ : L2.St) (p : Addr) (xs : List V) (F : Nat → List Addr) (wf : List Addr) (D : Ends) : Res Fl → Prop
  | .ok .nx env' => ∀ Hs' H', Ex Hs Hs' → Rel cf R Hs' env' σ H' F wf → H' p = some (.lst xs) → env'[j]? = some none → D.nx σ H'
  | .ok (.rt d) env' => ∀ v Hs' H', Ex Hs Hs' → Rel cf R Hs' env' σ H' F wf → Rp cf.K true (rs (rm H' wf) R.H0) v d → D.rt v H'
  | .ex x env' => ∀ Hs' H', Ex Hs Hs' → Rel cf R Hs' env' σ H' F wf → W (cf.cv x) none σ H'
  | _ => False
theorem PostB.mono {cf : Cf} {W : WX} {R : Rs} {Hs Hs' : Hp} {j : Nat} {σ : L2.St} {p : Addr} {xs : List V} {F : Nat → List Addr} {wf : List Addr} {D : Ends} (e : Ex Hs Hs') : ∀ {g : Res Fl}, PostB cf W R Hs j σ p xs F wf D g → PostB cf W R Hs' j σ p xs F wf D g
  | .ok .nx _, h => fun Hs2 H' e2 r => h Hs2 H' (e.trans e2) r
  | .ok (.rt d) _, h => fun v Hs2 H' e2 r => h v Hs2 H' (e.trans e2) r
  | .ex _ _, h => fun Hs2 H' e2 r => h Hs2 H' (e.trans e2) r
  | .ok .bk _, h => h.elim
  | .ok .ct _, h => h.elim
  | .stuck, h => h.elim
def SdB (cf : Cf) (W : WX) (i j : Nat) (t : TS) (q : Nat → M Fl) : Prop :=
  ∀ (R : Rs) (Hs : Hp) (env : PEnv) (σ : L2.St) (H : Hp) (F : Nat → List Addr) (wf : List Addr), Rel cf R Hs env σ H F wf → ∀ (k : Nat) (p : Addr) (v : V) (xs : List V), env[j]? = some none → σ[i]? = some (some (.ref p)) → p ∈ F i → H p = some (.lst xs) → xs[k]? = some v → σ[j]? = some (some v) → ∀ D : Ends, PostB cf W R Hs j σ p xs F wf D (q k env) → t D σ H
def SB (X : Cx) (cf : Cf) (W : WX) (i j : Nat) (st : List Stmt) (q : Nat → M Fl) : Prop := ∃ t, PSs X st t ∧ SdB cf W i j t q
section
variable {cf : Cf} {R : Rs} {Hs H : Hp} {env : PEnv} {σ : L2.St} {F : Nat → List Addr} {wf : List Addr}
theorem Rel.drop (r : Rel cf R Hs env σ H F wf) {j : Nat} (hw : cf.kd j ≠ .W) : Rel cf R Hs (env.set j none) σ H F wf where
  len := by rw [List.length_set]; exact r.len
  exs := r.exs
  ex0 := r.ex0
  dom0 := r.dom0
  slot := fun i d h => by
    rcases get_set h with ⟨rfl, e, hl⟩ | ⟨ne, h⟩
    · cases e
    · exact r.slot i d h
  nod := r.nod
  dis := r.dis
  fdom := r.fdom
  uns := r.uns
  new := r.new
  volw := r.volw
  volb := r.volb
  wdom := r.wdom
  ior := fun p h => by
    obtain ⟨h1, h2, h3, d', h4⟩ := r.ior p h
    have ne : j ≠ 0 := fun e => by subst e; exact hw h3
    exact ⟨h1, h2, h3, d', by rw [List.getElem?_set_ne ne]; exact h4⟩
theorem Rel.any (r : Rel cf R Hs env σ H F wf) {j : Nat} {v : V} (hj : env[j]? = some none) (hw : cf.kd j ≠ .W) : Rel cf R Hs env (σ.set j (some v)) H F wf where
  len := by rw [List.length_set]; exact r.len
  exs := r.exs
  ex0 := r.ex0
  dom0 := r.dom0
  slot := fun i d h => by
    have ne : j ≠ i := fun e => by subst e; rw [hj] at h; cases h
    obtain ⟨w, h1, h2⟩ := r.slot i d h
    exact ⟨w, by rw [List.getElem?_set_ne ne]; exact h1, h2⟩
  nod := r.nod
  dis := r.dis
  fdom := r.fdom
  uns := r.uns
  new := r.new
  volw := r.volw
  volb := r.volb
  wdom := r.wdom
  ior := fun p h => by
    obtain ⟨h1, h2, h3, d', h4⟩ := r.ior p h
    have ne : j ≠ 0 := fun e => by subst e; exact hw h3
    exact ⟨by rw [List.getElem?_set_ne ne]; exact h1, h2, h3, d', h4⟩
theorem Rel.tell (r : Rel cf R Hs env σ H F wf) {j : Nat} {v : V} {d : D} (hv : σ[j]? = some (some v)) (hk : cf.kd j = .S) (h : Rp cf.K true Hs v d) : Rel cf R Hs (env.set j (some d)) σ H F wf where
  len := by rw [List.length_set]; exact r.len
  exs := r.exs
  ex0 := r.ex0
  dom0 := r.dom0
  slot := fun i d' h' => by
    rcases get_set h' with ⟨rfl, e, hl⟩ | ⟨ne, h'⟩
    · cases e
      exact ⟨v, hv, by rw [hk]; exact h⟩
    · exact r.slot i d' h'
  nod := r.nod
  dis := r.dis
  fdom := r.fdom
  uns := r.uns
  new := r.new
  volw := r.volw
  volb := r.volb
  wdom := r.wdom
  ior := fun p h => by
    obtain ⟨h1, h2, h3, d', h4⟩ := r.ior p h
    have ne : j ≠ 0 := fun e => by subst e; rw [hk] at h3; cases h3
    exact ⟨h1, h2, h3, d', by rw [List.getElem?_set_ne ne]; exact h4⟩
end
section
variable {X : Cx} {cf : Cf} {W : WX} {c : Cls} {n n1 n2 : Bool} {i j : Nat}
theorem OwnL.row {K : PySem.W.Frag} {H : Hp} {F : List Addr} {xs : List V} {ds : List D} {k : Nat} {es : List D} {v : V} (h : OwnL K emp H F xs ds) (nd : F.Nodup) (hk : ds[k]? = some (.lst es)) (hv : xs[k]? = some v) :
    ∃ q ys Fq, v = .ref q ∧ H q = some (.lst ys) ∧ q ∈ F ∧ OwnL K emp H Fq ys es ∧ ∀ ys' es', (∀ H', (∀ a ∈ Fq, H' a = H a) → OwnL K emp H' Fq ys' es') → OwnL K emp (upd H q (.lst ys')) F xs (ds.set k (.lst es')) := by
  obtain ⟨q, ys, Fq, h1, h2⟩ := h.within nd k es hk
  rw [h1] at hv; cases hv
  exact ⟨q, ys, Fq, rfl, h2⟩
theorem sb_app {o e : Expr} {te : TE} {f : M D} {apos cpos pos : Pos} (hK : cf.K = X.K) (po : PE X o (tVar j)) (hk : cf.kd i = .P) (h : SE X cf W c n e te f)
    (hbase : attributeBase o "append" X.env (eval o X.env) = eval o X.env := by rfl)
    (hfew : ((backTo cpos (starEach [e] X.env)).all (fun x => !x.1) && (backToKw cpos (keywordEach [] X.env)).all (fun x => x.1.isSome) && decide ([e].length + ([] : List Keyword).length + (if ([] : List Keyword).isEmpty then 0 else 1) < 30)) = true := by rfl)
    (hline : (apos.endLine == cpos.line) = true := by rfl) (hs : starEach [e] X.env = (false, eval e X.env) :: starEach [] X.env := by rfl) (hplain : (backTo cpos (starEach [] X.env)).any (·.1) = false := by rfl)
    (hsw : swapsWith (.Call (.Attribute o "append" apos) [e] [] cpos) none pos.line X.env = pure false := by rfl) (hkj : cf.kd j = .S) :
    SB X cf W i j [.Expr (.Call (.Attribute o "append" apos) [e] [] cpos) pos] (appRow i f) := by
  refine ⟨_, pss_one (ps_expr (pe_bm PySem.F.plainAttrs_list PySem.F.slot_list_append PySem.F.type_list_append mt_append po (pa_cons h.p pa_nil hs) hbase hfew hline hs hplain) hsw), fun R Hs env σ H F wf r k p vr xs hj hσ hpF hp hx hσj D hpo => ?_⟩
  have hnw : cf.kd i ≠ .W := by rw [hk]; exact fun z => by cases z
  have hjw : cf.kd j ≠ .W := by rw [hkj]; exact fun z => by cases z
  -- the row, at a later time
  have row : ∀ {Hs1 H1 : Hp} {env1 : PEnv} {ds es : List MV.D}, Rel cf R Hs1 env1 σ H1 F wf → H1 p = some (.lst xs) → lst2 i k env1 = some (ds, es) → ∃ a ys Fq, vr = .ref a ∧ H1 a = some (.lst ys) ∧ a ∈ F i ∧ a ≠ p ∧ OwnL cf.K emp H1 Fq ys es ∧ ∀ ys' es', (∀ H', (∀ b ∈ Fq, H' b = H1 b) → OwnL cf.K emp H' Fq ys' es') → Own cf.K emp (upd H1 a (.lst ys')) (F i) (.ref p) (.lst (ds.set k (.lst es'))) := by
    intro Hs1 H1 env1 ds es r1 hp1 hl
    obtain ⟨q1, q2⟩ := lst2_some hl
    obtain ⟨v, hv, hsl⟩ := r1.slot i _ q1
    rw [hσ] at hv; cases hv
    rw [hk] at hsl
    obtain ⟨p', F', xs', e1, e2, e3, ro⟩ := Own.emp_lst hsl
    cases e1
    rw [hp1] at e3; cases e3
    have nd := r1.nod i
    rw [e2] at nd
    have nd' := List.nodup_cons.mp nd
    obtain ⟨q, ys, Fq, hq, h2, h3, h4, h5⟩ := ro.row nd'.2 q2 hx
    subst hq
    have hne : q ≠ p := fun e => nd'.1 (by rw [← e]; exact h3)
    refine ⟨q, ys, Fq, rfl, h2, by rw [e2]; exact List.mem_cons_of_mem _ h3, hne, h4, fun ys' es' hn => ?_⟩
    rw [e2]
    exact .lst (by rw [upd_ne (Ne.symm hne)]; exact hp1) (h5 ys' es' hn)
  unfold appRow at hpo
  cases q0 : lst2 i k env with
  | none => rw [q0] at hpo; exact hpo.elim
  | some de0 =>
    obtain ⟨ds0, es0⟩ := de0
    rw [q0] at hpo
    simp only at hpo
    obtain ⟨a, ys0, Fq0, rfl, b1, _, _, _, _⟩ := row r hp q0
    refine ⟨.ref a, hσj, .inl ⟨rfl, ys0, .inl (.inl b1)⟩, ?_⟩
    have hs := h.s R Hs env σ H F wf r fun v H1 => tNil σ H1 fun vs H2 => rAppend (.ref a) (v :: vs) H2 fun _ H3 => D.nx σ H3
    unfold bnd at hpo
    cases q : f env with
    | stuck => rw [q] at hpo; exact hpo.elim
    | ex x env1 =>
      rw [q] at hs hpo
      exact hs fun Hs1 H1 s1 r1 => hpo Hs1 H1 s1.ex r1
    | ok x env1 =>
      rw [q] at hs hpo
      refine hs fun v Hs1 H1 s1 r1 p1 _ => ?_
      simp only at hpo
      unfold appR at hpo
      cases q : lst2 i k env1 with
      | none => rw [q] at hpo; exact hpo.elim
      | some de =>
        obtain ⟨ds, es⟩ := de
        rw [q] at hpo
        simp only at hpo
        split at hpo
        · rename_i hc
          rw [Bool.and_eq_true] at hc
          have hp1 : H1 p = some (.lst xs) := s1.keep p _ (r.volb i hnw p hpF) hp
          obtain ⟨a', ys, Fq, ea, h1, h2, h3, h4, h5⟩ := row r1 hp1 q
          cases ea
          obtain ⟨q1, q2⟩ := lst2_some q
          refine ⟨a, ys, v, rfl, rfl, h1, by rw [h4.length]; exact lim_lt (of_decide_eq_true hc.2), ?_⟩
          have hxe := p1.sc_any hc.1 true emp
          refine hpo Hs1 _ s1.ex (r1.mut (i := i) (p := a) (v := .ref p) (d0 := .lst ds) h2 q1 hσ (by
            rw [hk]
            exact h5 _ _ fun H' hH' => OwnL.app (h4.keep (Ex.refl _) fun b m o hb => by rw [hH' b m]; exact hb) (.cons hxe .nil))) (by rw [upd_ne (Ne.symm h3)]; exact hp1) (by
              have hij : i ≠ j := fun e => by subst e; rw [hk] at hkj; cases hkj
              rw [List.getElem?_set_ne hij, s1.kp j hjw]; exact hj)
        · exact hpo.elim
theorem sb_ask {st : Stmt} {rest : List Stmt} {a : M Fl} {q : Nat → M Fl} (hk : cf.kd i = .P) (hkj : cf.kd j = .S) (ha : SQ X cf.lent W st a) (hb : SB X cf W i j rest q) : SB X cf W i j (st :: rest) (fun k => sSeq (askRow i j a k) (q k)) := by
  obtain ⟨t, pt, sa⟩ := ha
  obtain ⟨u, pu, su⟩ := hb
  refine ⟨_, pss_cons pt pu, fun R Hs env σ H F wf r k p vr xs hj hσ hpF hp hx hσj D hpo => ?_⟩
  have hjw : cf.kd j ≠ .W := by rw [hkj]; exact fun z => by cases z
  have hnw : cf.kd i ≠ .W := by rw [hk]; exact fun z => by cases z
  unfold sSeq askRow bnd at hpo
  simp only at hpo
  cases q0 : lst2 i k env with
  | none => rw [q0] at hpo; exact hpo.elim
  | some de0 =>
    obtain ⟨ds0, es0⟩ := de0
    rw [q0] at hpo
    simp only at hpo
    obtain ⟨q1, q2⟩ := lst2_some q0
    -- the row, lent
    have rl := r.lend
    obtain ⟨v, hv, hsl⟩ := rl.slot i _ q1
    rw [hσ] at hv; cases hv
    have hsl : Rp cf.K true (lendH cf F Hs H) (.ref p) (.lst ds0) := by
      have e : cf.lent.kd i = .S := by show (cf.kd i).lent = .S; rw [hk]; rfl
      rw [e] at hsl; exact hsl
    obtain ⟨p', xs', e1, e2, e3⟩ := hsl.lst_inv
    cases e1
    have e2 : lendH cf F Hs H p = some (.lst xs') := e2
    rw [lend_yes ⟨i, hnw, hpF⟩, hp] at e2; cases e2
    obtain ⟨v, hv, hr⟩ := e3.get q2
    rw [hx] at hv; cases hv
    have ekj : cf.lent.kd j = .S := by show (cf.kd j).lent = .S; rw [hkj]; rfl
    have r2 := rl.tell (j := j) hσj ekj hr
    have jl : j < env.length := by
      rcases Nat.lt_or_ge j env.length with h | h
      · exact h
      · rw [List.getElem?_eq_none h] at hj; cases hj
    have eset : (env.set j (some (.lst es0))).set j none = env := by
      rw [List.set_set]
      apply List.ext_getElem?
      intro m
      by_cases c : j = m
      · subst c; rw [List.getElem?_set_self jl, hj]
      · rw [List.getElem?_set_ne c]
    refine sa R _ _ _ H _ wf r2 { D with nx := u D } ?_
    -- what comes back
    have back : ∀ {env1 : PEnv} {Hs' H' : Hp}, Stp cf.lent wf (env.set j (some (.lst es0))) (lendH cf F Hs H) H env1 Hs' H' → Rel cf.lent R Hs' env1 σ H' (lendF cf F) wf → Stp cf wf env Hs H (env1.set j none) (backH cf F Hs') H' ∧ Rel cf R (backH cf F Hs') (env1.set j none) σ H' F wf ∧ (env1.set j none)[j]? = some none ∧ Ex (backH cf F Hs') (backH cf F Hs') := by
      intro env1 Hs' H' s' r'
      have jw' : cf.lent.kd j ≠ .W := by rw [ekj]; exact fun z => by cases z
      have r3 := r'.drop (j := j) jw'
      have s3 : Stp cf.lent wf env (lendH cf F Hs H) H (env1.set j none) Hs' H' := ⟨s'.dom, s'.ex, s'.keep, s'.same, fun m km => by
        by_cases c : j = m
        · subst c
          have := s'.kp j km
          rw [List.getElem?_set_self jl] at this
          have l1 : j < env1.length := by
            rcases Nat.lt_or_ge j env1.length with h | h
            · exact h
            · rw [List.getElem?_eq_none h] at this; cases this
          rw [List.getElem?_set_self l1, hj]
        · have := s'.kp m km
          rw [List.getElem?_set_ne c] at this
          rw [List.getElem?_set_ne c, this]⟩
      refine ⟨stp_back r s3, rel_back r s3 r3, ?_, Ex.refl _⟩
      have := s3.kp j jw'
      rw [this, hj]
    cases qa : a (env.set j (some (.lst es0))) with
    | stuck => rw [qa] at hpo; exact hpo.elim
    | ex x env1 =>
      rw [qa] at hpo
      intro Hs' H' s' r'
      obtain ⟨s3, r3, h3, _⟩ := back s' r'
      exact hpo _ H' s3.ex r3
    | ok f env1 =>
      rw [qa] at hpo
      cases f with
      | nx =>
        intro Hs' H' s' r'
        obtain ⟨s3, r3, h3, _⟩ := back s' r'
        exact su R _ _ σ H' F wf r3 k p vr xs h3 hσ hpF (s3.keep p _ (r.volb i hnw p hpF) hp) hx hσj D (PostB.mono s3.ex hpo)
      | rt d =>
        intro v Hs' H' s' r' pv
        obtain ⟨s3, r3, h3, _⟩ := back s' r'
        exact hpo v _ H' s3.ex r3 pv
      | bk => exact hpo.elim
      | ct => exact hpo.elim
theorem foGo_post {R : Rs} {Hs : Hp} {D : Ends} {q : Nat → M Fl} {m k : Nat} {env : PEnv} (hp : Post cf W R Hs D (foGo q (m + 1) k env)) : Post cf W R Hs D (match q k env with | .ok .nx e => foGo q m (k + 1) e | .ok (.rt d) e => .ok (.rt d) e | .ex x e => .ex x e | _ => .stuck) := by
  unfold foGo bnd at hp
  cases h : q k env with
  | stuck => rw [h] at hp; exact hp
  | ex x e => rw [h] at hp; exact hp
  | ok f e =>
    rw [h] at hp
    cases f <;> exact hp
theorem ss_forO {y : Str} {o : Expr} {body : List Stmt} {q : Nat → M Fl} {pos tpos : Pos} (hp : PassesOwn (model X.prog X.w) X.A X.env X.xe) (hc : X.calm = true) (hK : cf.K = X.K) (po : PE X o (tVar i)) (hk : cf.kd i = .P) (hkj : cf.kd j = .S) (hN : X.N.Nodup) (hj : X.N[j]? = some y) (hx : Loc X.env.scope y) (hb : SB X cf W i j body q)
    (hf : X.fn y = true ∨ X.env.scope.names.lookup y = some .local := by first | exact .inl rfl | exact .inr rfl | assumption)
    (hs : ∀ x, foldedSetIterable o X.env x = pure x := by intro _; rfl) : SS X cf W (.For (.Name y tpos) o body [] pos) (sForO i j q) := by
  obtain ⟨tb, pb, sb⟩ := hb
  refine ⟨_, ps_for hp hc (pi_list po) (pg_name hN hj hx hf) pb hs, fun R Hs env σ H F wf r D hp => ?_⟩
  have hjw : cf.kd j ≠ .W := by rw [hkj]; exact fun z => by cases z
  have hnw : cf.kd i ≠ .W := by rw [hk]; exact fun z => by cases z
  have hij : i ≠ j := fun e => by subst e; rw [hk] at hkj; cases hkj
  unfold sForO at hp
  split at hp
  · rename_i ds q0
    split at hp
    · rename_i jl
      obtain ⟨v, hv, hsl⟩ := r.slot i _ q0
      rw [hk] at hsl
      obtain ⟨p, F', xs, rfl, e2, e3, ro⟩ := Own.emp_lst hsl
      have hl := ro.length
      have hpF : p ∈ F i := by rw [e2]; exact List.mem_cons_self
      have r0 := r.drop (j := j) hjw
      refine ⟨.ref p, hv, p, rfl, ⟨xs, .inl (.inl e3)⟩, ?_⟩
      refine ⟨fun k m σ' H' => ∃ Hs2 env2, Ex Hs Hs2 ∧ Rel cf R Hs2 env2 σ' H' F wf ∧ env2[j]? = some none ∧ σ'[i]? = some (some (.ref p)) ∧ σ'.length = σ.length ∧ H' p = some (.lst xs) ∧ k ≤ ds.length ∧ m = ds.length - k ∧ Post cf W R Hs2 D (foGo q (ds.length - k) k env2),
        ⟨ds.length, Hs, env.set j none, Ex.refl _, r0, List.getElem?_set_self jl, hv, rfl, e3, Nat.zero_le _, by simp, hp⟩, ?_⟩
      rintro k m σ1 H1 ⟨Hs2, env2, x2, r2, hj2, hσ2, hl2, hp2, hi, rfl, hpo⟩
      by_cases hlt : k < ds.length
      · refine .inr ⟨⟨xs, xs[k]'(by omega), .inl (.inl hp2), by simp⟩, fun σ' H' => ∃ Hs3 env3, Ex Hs Hs3 ∧ Rel cf R Hs3 env3 σ' H' F wf ∧ env3[j]? = some none ∧ σ'[i]? = some (some (.ref p)) ∧ σ'.length = σ.length ∧ H' p = some (.lst xs) ∧ Post cf W R Hs3 D (foGo q (ds.length - (k + 1)) (k + 1) env3), fun σ' H' hN => ?_, fun x H' yy => ?_⟩
        · obtain ⟨Hs3, env3, a1, a2, a3, a4, a5, a6, a7⟩ := hN
          exact ⟨ds.length - (k + 1), by omega, Hs3, env3, a1, a2, a3, a4, a5, a6, hlt, rfl, a7⟩
        · obtain ⟨rfl, yy⟩ := yy
          have hxk := yy xs (.inl (.inl hp2))
          -- the row is an object
          have ed : ds.length - k = (ds.length - (k + 1)) + 1 := by omega
          rw [ed] at hpo
          have hpo := foGo_post hpo
          have r3 := r2.any (j := j) (v := x) hj2 hjw
          have jl2 : j < σ1.length := by
            have : j < env.length := jl
            rw [r.len, ← hl2] at this; exact this
          have hσj : (σ1.set j (some x))[j]? = some (some x) := List.getElem?_set_self jl2
          have hσi : (σ1.set j (some x))[i]? = some (some (.ref p)) := by rw [List.getElem?_set_ne (Ne.symm hij)]; exact hσ2
          have hls : (σ1.set j (some x)).length = σ.length := by rw [List.length_set]; exact hl2
          show tb _ _ _
          refine sb R Hs2 env2 _ H' F wf r3 k p x xs hj2 hσi hpF hp2 hxk hσj _ ?_
          cases qb : q k env2 with
          | stuck => rw [qb] at hpo; exact hpo.elim
          | ex x e => rw [qb] at hpo; exact fun Hs3 H3 x3 r4 => hpo Hs3 _ H3 F wf x3 r4
          | ok f e =>
            rw [qb] at hpo
            cases f with
            | nx => exact fun Hs3 H3 x3 r4 hp3 hj3 => ⟨Hs3, e, x2.trans x3, r4, hj3, hσi, hls, hp3, Post.mono x3 hpo⟩
            | rt d => exact fun v Hs3 H3 x3 r4 pv => hpo v Hs3 _ H3 F wf x3 r4 pv
            | bk => exact hpo.elim
            | ct => exact hpo.elim
      · have e : k = ds.length := by omega
        subst e
        rw [Nat.sub_self] at hpo
        exact .inl ⟨⟨xs, .inl (.inl hp2), by omega⟩, hpo Hs2 σ1 H1 F wf (Ex.refl _) r2⟩
    · exact hp.elim
  · exact hp.elim
end
end MV
namespace Ov
open PySem MV
def B__law_due_v20 : M Fl := (sSeq (sSet 1 (e2 gLR2 (eC (.int 1)) (e2 gAdd (eN gLen (aCons (eV 0) aNil)) (eC (.int 1)))))
  (sSeq (sSet 2 (eF (eLc [3] (iL (eV 1)) (tgN 3) (tB (eCall F__law_rest (aCons (eV 0) (aCons (eSl (eV 0) oNone (oSome (eV 3))) (aCons (eC (.bl false)) (aCons (eC (.bl true)) aNil)))))) (eV 3))))
  (sRet (eN gLst (aCons (eV 2) (aCons (eF (eLc [3] (iL (eV 1)) (tgN 3) (tB (eCall F__law_rest (aCons (eV 0) (aCons (eSl (eV 0) (oSome (e2 gSub (eN gLen (aCons (eV 0) aNil)) (eV 3))) oNone) (aCons (eC (.bl true)) (aCons (eC (.bl false)) aNil)))))) (eV 3))) aNil))))))
def F__law_due_v20 : List D → FR := runF 4 B__law_due_v20
def Q__law_right_v25_l1 : Nat → M Fl := (fun k => sSeq (askRow 5 6 (sIf (tNot1 (tB (eIsi "list" (eV 6)))) (sRet (eC (.bl false))) sSkip) k) ((fun k => sSeq (askRow 5 6 (sIf (tB (e2 gNe (eLc [8] (iL (eV 6)) (tgN 8) (tB (eIsi "bool" (eV 8))) (eV 8)) (eN gLst aNil))) (sRet (eC (.bl false))) sSkip) k) ((appRow 5 (eC (.int 0))) k)) k))
def B__law_right_v25_l2 : M Fl := (sSeq (sSet 5 (eN gLstO (aCons (eF (eCall F_beginnings_with_rest (aCons (eV 1) aNil))) (aCons (eF (eCall F_ends_with_rest (aCons (eV 1) aNil))) aNil))))
  (sSeq (sIf (tOr2 (tB (e2 gNe (eV 5) (eV 2))) (tB (e2 gNe (eV 1) (eV 0)))) (sRet (eC (.bl false))) sSkip)
  (sForO 5 6 Q__law_right_v25_l1)))
def B__law_right_v25 : M Fl := (sSeq (sSet 1 (eN gList1 (aCons (eV 0) aNil)))
  (sSeq (sSet 2 (eCall F__law_due_v20 (aCons (eV 0) aNil)))
  (sSeq (sIf (tB (e2 gLt (eN gLen (aCons (eV 0) aNil)) (eC (.int 17)))) (sSeq (sSet 4 (e2 gLR2 (eC (.int 1)) (e2 gAdd (eN gLen (aCons (eV 0) aNil)) (eC (.int 1)))))
  (sSeq (sIf (tB (e2 gNe (e2 gIx (eV 2) (eC (.int 0))) (eLc [7] (iL (eV 4)) (tgN 7) (tB (eCall F__law_by_trial (aCons (eV 0) (aCons (eSl (eV 0) oNone (oSome (eV 7))) (aCons (eC (.bl false)) (aCons (eC (.bl true)) aNil)))))) (eV 7)))) (sRet (eC (.bl false))) sSkip)
  (sIf (tB (e2 gNe (e2 gIx (eV 2) (eC (.int 1))) (eLc [7] (iL (eV 4)) (tgN 7) (tB (eCall F__law_by_trial (aCons (eV 0) (aCons (eSl (eV 0) (oSome (e2 gSub (eN gLen (aCons (eV 0) aNil)) (eV 7))) oNone) (aCons (eC (.bl true)) (aCons (eC (.bl false)) aNil)))))) (eV 7)))) (sRet (eC (.bl false))) sSkip))) sSkip)
  (sSeq (sFor (iN gR1 (aCons (eC (.int 2)) aNil)) (tgN 3) B__law_right_v25_l2)
  (sRet (eC (.bl true)))))))
def F__law_right_v25 : List D → FR := runF 9 B__law_right_v25
def B_law_k18_l1 : M Fl := (sIf (tAnd2 (tB (e2 gNe (eV 7) (eN gLst aNil))) (tNot1 (tB (eCall F__law_right_v25 (aCons (eV 7) aNil))))) (sRet (eC (.bl false))) sSkip)
def B_law_k18_l2 : M Fl := (sSeq (sSetW 2 (eCall F__law_deck (aCons (eV 1) aNil)))
  (sSeq (sUnp (eCallW F__law_pair 2 (aCons (eC (.bl true)) aNil)) (tgT [3, 4]))
  (sSeq (sSet 5 (eCallW F__law_take_v3 2 (aCons (e2 gAdd (eN gLen (aCons (eV 4) aNil)) (eC (.int 1))) aNil)))
  (sSeq (sSet 6 (e2 gAdd (e2 gMul (eV 4) (e2 gAdd (eC (.int 1)) (eCallW F__law_take_v3 2 (aCons (eC (.int 4)) aNil)))) (eSl (eV 4) oNone (oSome (eV 5)))))
  (sFor (iL (eN gLst (aCons (eV 3) (aCons (eSl (eV 3) oNone (oSome (eC (.int 9)))) (aCons (eSl (eV 6) oNone (oSome (eC (.int 40)))) (aCons (eSl (e2 gAdd (eSl (eV 4) (oSome (eV 5)) oNone) (eV 6)) oNone (oSome (eC (.int 40)))) aNil)))))) (tgN 7) B_law_k18_l1)))))
def B_law_k18 : M Fl := (sSeq (sFor (iL (e2 gAdd (eSlQ 0 oNone (oSome (eC (.int 3)))) (eN gLst (aCons (eCallQ F__law_cell_at 0 (aCons (eC (.int 0)) aNil)) aNil)))) (tgN 1) B_law_k18_l2)
  (sRet (eC (.bl true))))
def F_law_k18 : List D → FR := runF 8 B_law_k18
end Ov
namespace Ov
open PySem (Str PyData)
open MV
theorem dN_snoc (l : List Nat) (x : Nat) : D.lst ((l.map fun k : Nat => D.int (k : Int)) ++ [.int (x : Int)]) = dN (l ++ [x]) := by
  show _ = D.lst _
  rw [List.map_append]; rfl
end Ov
namespace MV
def soK (b : M Fl) : Fl → PEnv → Res Fl
  | .nx, e => b e
  | _, _ => .stuck
@[simp] theorem soK_nx {b : M Fl} {e : PEnv} : soK b .nx e = b e := (rfl)
@[simp] theorem r_sSeqO {a b : M Fl} {e : PEnv} : sSeqO a b e = rb (a e) (soK b) := by
  show rb (a e) _ = _
  congr 1; funext f e; cases f <;> rfl
@[simp] theorem r_sRetO {i : Nat} {e : PEnv} : sRetO i e = ro (someO (e[i]?)) fun d => .ok (.rt d) e := by
  unfold sRetO
  cases e[i]? with
  | none => rfl
  | some o => cases o <;> rfl
@[simp] theorem gList1_t {ds : List D} : gList1 [.tup ds] = some (.lst ds) := (rfl)
end MV
namespace Ov
open PySem (Str PyData)
open MV
theorem app_row {i k : Nat} {e : PEnv} {ds es : List D} {x : D} (h : e[i]? = some (some (.lst ds))) (hk : ds[k]? = some (.lst es)) (hx : x.sc = true) (hl : es.length < LIM) : appRow i (eC x) k e = .ok .nx (e.set i (some (.lst (ds.set k (.lst (es ++ [x])))))) := by
  have l2 : lst2 i k e = some (ds, es) := by unfold lst2; simp only [h, hk]
  unfold appRow
  rw [l2]
  show bnd (eC x) (appR i k) e = _
  rw [bnd_of_ok (show eC x e = .ok x e from rfl)]
  unfold appR
  rw [l2]
  simp only [hx, decide_eq_true hl, Bool.and_self, if_true]
end Ov
namespace Ov
open PySem (Str PyData)
open MV
section
variable {t : List Str}
theorem len_take' {k : Nat} (hk : k ≤ t.length) : (t.take k).length = k := by rw [List.length_take]; omega
theorem rng_up (n : Nat) (hn : n ≤ 100000) : gLR2 (.int 1) (.int ((n : Int) + 1)) = if smallI 1 && smallI ((n : Int) + 1) && decide (((n : Int) + 1 - 1).toNat ≤ LIM) then some (.lst (rngD 1 ((n : Int) + 1 - 1).toNat)) else none := rfl
theorem rng_up' (n : Nat) (hn : n ≤ 100000) : gLR2 (.int 1) (.int ((n : Int) + 1)) = some (dN (List.range' 1 n)) := by
  have e : ((n : Int) + 1 - 1).toNat = n := by omega
  rw [rng_up n hn, e, if_pos]
  · show some (D.lst (rngD ((1 : Nat) : Int) n)) = _
    rw [rngN]
  · rw [show smallI (1 : Int) = true by decide, small_of (by omega) (by omega), decide_eq_true (show n ≤ LIM from hn)]; rfl
theorem due19_val (ht : Tx t) (t0 : t ≠ []) (hl : t.length ≤ 300) : F__law_due_v20 [dT t] = .ok (.lst [dN (bwr t), dN (ewr t)]) (dT t) := by
  have p0 : 0 < t.length := List.length_pos_iff.mpr t0
  have ru := rng_up' t.length (by omega)
  have rl : (List.range' 1 t.length).length ≤ LIM := by rw [List.length_range']; show _ ≤ 100000; omega
  have h1 := lc_nat (is := [3]) (tg := tgN 3) (t := tB (eCall F__law_rest (aCons (eV 0) (aCons (eSl (eV 0) oNone (oSome (eV 3))) (aCons (eC (.bl false)) (aCons (eC (.bl true)) aNil)))))) (fe := eV 3) (e := [some (dT t), some (dN (List.range' 1 t.length)), none, none]) (fun k => rbV t (t.take k)) (fun k => .int (k : Int)) (List.range' 1 t.length) rl
    (fun k hk => by
      obtain ⟨k1, k2⟩ := List.mem_range'_1.mp hk
      have kl : 0 < (t.take k).length := by rw [len_take' (by omega)]; omega
      have rv := law_rest_val ht (ht.take k) kl (by omega) (by rw [len_take' (by omega)]; omega) (ah := false) (bh := true)
      rw [(rest_same p0 kl).1] at rv
      refine ⟨_, [some (dT t), some (dN (List.range' 1 t.length)), none, some (.int (k : Int))], rfl, ?_, fun _ => ⟨_, rfl, rfl⟩, fun _ => rfl⟩
      generalize (List.range' 1 t.length) = RR
      simp [cutA_map, cutA_to, rv, -List.map_take])
  have h2 := lc_nat (is := [3]) (tg := tgN 3) (t := tB (eCall F__law_rest (aCons (eV 0) (aCons (eSl (eV 0) (oSome (e2 gSub (eN gLen (aCons (eV 0) aNil)) (eV 3))) oNone) (aCons (eC (.bl true)) (aCons (eC (.bl false)) aNil)))))) (fe := eV 3) (e := [some (dT t), some (dN (List.range' 1 t.length)), some (dN (bwr t)), none]) (fun k => raV t (t.drop (t.length - k))) (fun k => .int (k : Int)) (List.range' 1 t.length) rl
    (fun k hk => by
      obtain ⟨k1, k2⟩ := List.mem_range'_1.mp hk
      have dl : (t.drop (t.length - k)).length = k := by rw [List.length_drop]; omega
      have kl : 0 < (t.drop (t.length - k)).length := by omega
      have rv := law_rest_val ht (ht.drop (t.length - k)) kl (by omega) (by omega) (ah := true) (bh := false)
      rw [(rest_same p0 kl).2.1] at rv
      have ct : cutA t (some ((t.length : Int) - (k : Int))) none = t.drop (t.length - k) := by
        rw [show (t.length : Int) - (k : Int) = ((t.length - k : Nat) : Int) by omega]; exact cutA_from _ _
      refine ⟨_, [some (dT t), some (dN (List.range' 1 t.length)), some (dN (bwr t)), some (.int (k : Int))], rfl, ?_, fun _ => ⟨_, rfl, rfl⟩, fun _ => rfl⟩
      generalize (List.range' 1 t.length) = RR
      generalize bwr t = BB
      simp [cutA_map, ct, rv, -List.map_drop])
  have h1 : lcGo [3] (tgN 3) (tB (eCall F__law_rest (aCons (eV 0) (aCons (eSl (eV 0) oNone (oSome (eV 3))) (aCons (eC (.bl false)) (aCons (eC (.bl true)) aNil)))))) (eV 3) ((List.range' 1 t.length).map fun k : Nat => D.int (k : Int)) [] [some (dT t), some (dN (List.range' 1 t.length)), none, none] = .ok ((bwr t).map fun k : Nat => D.int (k : Int)) [some (dT t), some (dN (List.range' 1 t.length)), none, none] := h1
  have h2 : lcGo [3] (tgN 3) (tB (eCall F__law_rest (aCons (eV 0) (aCons (eSl (eV 0) (oSome (e2 gSub (eN gLen (aCons (eV 0) aNil)) (eV 3))) oNone) (aCons (eC (.bl true)) (aCons (eC (.bl false)) aNil)))))) (eV 3) ((List.range' 1 t.length).map fun k : Nat => D.int (k : Int)) [] [some (dT t), some (dN (List.range' 1 t.length)), some (dN (bwr t)), none] = .ok ((ewr t).map fun k : Nat => D.int (k : Int)) [some (dT t), some (dN (List.range' 1 t.length)), some (dN (bwr t)), none] := h2
  have z2 : (2 : Nat) ≤ PySem.sizeLine := by decide
  have f1 : ((bwr t).map fun k : Nat => D.int (k : Int)).all D.sc = true := by rw [List.all_map]; exact List.all_eq_true.mpr fun _ _ => rfl
  have f2 : ((ewr t).map fun k : Nat => D.int (k : Int)).all D.sc = true := by rw [List.all_map]; exact List.all_eq_true.mpr fun _ _ => rfl
  have fl : ∀ l : List Nat, (dN l).flat = true := flat_dN
  unfold dN at *
  simp only [F__law_due_v20, r_runF, B__law_due_v20]
  generalize ((bwr t).map fun k : Nat => D.int (k : Int)) = BB at *
  generalize ((ewr t).map fun k : Nat => D.int (k : Int)) = EE at *
  generalize ((List.range' 1 t.length).map fun k : Nat => D.int (k : Int)) = RR at *
  simp [ru, h1, h2, z2, f1, f2, -gLR2_i]
theorem row18 {k : Nat} {ds : List D} {r : List Nat} (hk : ds[k]? = some (dN r)) (hr : r.length ≤ 5000) {x0 x1 x2 x3 x4 : Option D} :
    Q__law_right_v25_l1 k [x0, x1, x2, x3, x4, some (.lst ds), none, none, none] = .ok .nx [x0, x1, x2, x3, x4, some (.lst (ds.set k (dN (r ++ [0])))), none, none, none] := by
  have l2 : lst2 5 k [x0, x1, x2, x3, x4, some (.lst ds), none, none, none] = some (ds, r.map fun k : Nat => D.int (k : Int)) := by
    unfold lst2
    show (match ds[k]? with | some (.lst es) => some (ds, es) | _ => none) = _
    rw [hk]
  have a1 : ∀ a : M Fl, a [x0, x1, x2, x3, x4, some (.lst ds), some (dN r), none, none] = .ok .nx [x0, x1, x2, x3, x4, some (.lst ds), some (dN r), none, none] → askRow 5 6 a k [x0, x1, x2, x3, x4, some (.lst ds), none, none, none] = .ok .nx [x0, x1, x2, x3, x4, some (.lst ds), none, none, none] := fun a h => by
    unfold askRow
    rw [l2]
    show (match a [x0, x1, x2, x3, x4, some (.lst ds), some (dN r), none, none] with | Res.ok f e1 => Res.ok f (List.set e1 6 none) | Res.ex x e1 => Res.ex x (List.set e1 6 none) | Res.stuck => Res.stuck) = _
    rw [h]; rfl
  have lc := lc_nat (is := [8]) (tg := tgN 8) (t := tB (eIsi "bool" (eV 8))) (fe := eV 8) (e := [x0, x1, x2, x3, x4, some (.lst ds), some (dN r), none, none]) (fun _ => false) (fun k => .int (k : Int)) r (by show _ ≤ 100000; omega)
    (fun k hk => ⟨_, [x0, x1, x2, x3, x4, some (.lst ds), some (dN r), none, some (.int (k : Int))], rfl, by simp, (fun h => by cases h), fun _ => rfl⟩)
  rw [filter_no] at lc
  have b1 := a1 (sIf (tNot1 (tB (eIsi "list" (eV 6)))) (sRet (eC (.bl false))) sSkip) (by simp)
  have b2 := a1 (sIf (tB (e2 gNe (eLc [8] (iL (eV 6)) (tgN 8) (tB (eIsi "bool" (eV 8))) (eV 8)) (eN gLst aNil))) (sRet (eC (.bl false))) sSkip) (by simp [lc, hsz0])
  have b3 := app_row (i := 5) (k := k) (e := [x0, x1, x2, x3, x4, some (.lst ds), none, none, none]) (ds := ds) (es := r.map fun k : Nat => D.int (k : Int)) (x := .int ((0 : Nat) : Int)) rfl hk rfl (by rw [List.length_map]; show _ < 100000; omega)
  rw [dN_snoc] at b3
  have b3 : appRow 5 (eC (.int 0)) k [x0, x1, x2, x3, x4, some (.lst ds), none, none, none] = .ok .nx [x0, x1, x2, x3, x4, some (.lst (ds.set k (dN (r ++ [0])))), none, none, none] := b3
  show sSeq (askRow 5 6 _ k) (sSeq (askRow 5 6 _ k) (appRow 5 (eC (.int 0)) k)) _ = _
  simp only [r_sSeq, b1, rb_ok, sqK_nx, b2, b3]
theorem lay_two2 (a b : List Nat) : Lay 64 (.lst [dN a, dN b]) := lay_lst (n := 63) fun x hx => by
  rcases List.mem_cons.mp hx with rfl | hx
  · exact lay_dN _
  · rw [List.mem_singleton.mp hx]; exact lay_dN _
theorem walk18 {a b : List Nat} (ha : a.length ≤ 5000) (hb : b.length ≤ 5000) {x0 x1 x2 x3 x4 x6 : Option D} :
    sForO 5 6 Q__law_right_v25_l1 [x0, x1, x2, x3, x4, some (.lst [dN a, dN b]), x6, none, none] = .ok .nx [x0, x1, x2, x3, x4, some (.lst [dN (a ++ [0]), dN (b ++ [0])]), none, none, none] := by
  have r1 := row18 (k := 0) (ds := [dN a, dN b]) (r := a) rfl ha (x0 := x0) (x1 := x1) (x2 := x2) (x3 := x3) (x4 := x4)
  have r2 := row18 (k := 1) (ds := [dN (a ++ [0]), dN b]) (r := b) rfl hb (x0 := x0) (x1 := x1) (x2 := x2) (x3 := x3) (x4 := x4)
  have r1 : Q__law_right_v25_l1 0 [x0, x1, x2, x3, x4, some (.lst [dN a, dN b]), none, none, none] = .ok .nx [x0, x1, x2, x3, x4, some (.lst [dN (a ++ [0]), dN b]), none, none, none] := r1
  have r2 : Q__law_right_v25_l1 1 [x0, x1, x2, x3, x4, some (.lst [dN (a ++ [0]), dN b]), none, none, none] = .ok .nx [x0, x1, x2, x3, x4, some (.lst [dN (a ++ [0]), dN (b ++ [0])]), none, none, none] := r2
  show foGo Q__law_right_v25_l1 2 0 [x0, x1, x2, x3, x4, some (.lst [dN a, dN b]), none, none, none] = _
  rw [foGo, bnd_of_ok r1]
  show foGo Q__law_right_v25_l1 1 1 _ = _
  rw [foGo, bnd_of_ok r2]
  rfl
theorem right24_ok (ht : Tx t) (t0 : t ≠ []) (hl : t.length ≤ 250) : ∃ io, F__law_right_v25 [dT t] = .ok (.bl true) io := by
  have p0 : 0 < t.length := List.length_pos_iff.mpr t0
  have dv := due19_val ht t0 (by omega)
  have bv := beginnings_val ht t0 (by omega)
  have ev := endsr_val ht t0 (by omega)
  have bl : (bwr t).length ≤ 300 := by unfold bwr; exact Nat.le_trans (List.length_filter_le _ _) (by rw [List.length_range']; omega)
  have el : (ewr t).length ≤ 300 := by unfold ewr; exact Nat.le_trans (List.length_filter_le _ _) (by rw [List.length_range']; omega)
  have ru := rng_up' t.length (by omega)
  have rl : (List.range' 1 t.length).length ≤ LIM := by rw [List.length_range']; show _ ≤ 100000; omega
  have h1 : ∀ x5 x6, lcGo [7] (tgN 7) (tB (eCall F__law_by_trial (aCons (eV 0) (aCons (eSl (eV 0) oNone (oSome (eV 7))) (aCons (eC (.bl false)) (aCons (eC (.bl true)) aNil)))))) (eV 7) ((List.range' 1 t.length).map fun k : Nat => D.int (k : Int)) [] [some (dT t), some (dT t), some (.lst [dN (bwr t), dN (ewr t)]), none, some (dN (List.range' 1 t.length)), x5, x6, none, none] = .ok ((bwr t).map fun k : Nat => D.int (k : Int)) [some (dT t), some (dT t), some (.lst [dN (bwr t), dN (ewr t)]), none, some (dN (List.range' 1 t.length)), x5, x6, none, none] := fun x5 x6 =>
    lc_nat (is := [7]) (tg := tgN 7) (t := tB (eCall F__law_by_trial (aCons (eV 0) (aCons (eSl (eV 0) oNone (oSome (eV 7))) (aCons (eC (.bl false)) (aCons (eC (.bl true)) aNil)))))) (fe := eV 7) (e := [some (dT t), some (dT t), some (.lst [dN (bwr t), dN (ewr t)]), none, some (dN (List.range' 1 t.length)), x5, x6, none, none]) (fun k => rbV t (t.take k)) (fun k => .int (k : Int)) (List.range' 1 t.length) rl
    (fun k hk => by
      obtain ⟨k1, k2⟩ := List.mem_range'_1.mp hk
      have kl : 0 < (t.take k).length := by rw [len_take' (by omega)]; omega
      have rv := by_trial_val ht (ht.take k) kl (by omega) (by rw [len_take' (by omega)]; omega) (ah := false) (bh := true)
      rw [(trial_same p0 kl).1] at rv
      refine ⟨_, [some (dT t), some (dT t), some (.lst [dN (bwr t), dN (ewr t)]), none, some (dN (List.range' 1 t.length)), x5, x6, some (.int (k : Int)), none], rfl, ?_, fun _ => ⟨_, rfl, rfl⟩, fun _ => rfl⟩
      generalize (List.range' 1 t.length) = RR
      generalize (D.lst [dN (bwr t), dN (ewr t)]) = DD
      simp [cutA_map, cutA_to, rv, -List.map_take])
  have h2 : ∀ x5 x6, lcGo [7] (tgN 7) (tB (eCall F__law_by_trial (aCons (eV 0) (aCons (eSl (eV 0) (oSome (e2 gSub (eN gLen (aCons (eV 0) aNil)) (eV 7))) oNone) (aCons (eC (.bl true)) (aCons (eC (.bl false)) aNil)))))) (eV 7) ((List.range' 1 t.length).map fun k : Nat => D.int (k : Int)) [] [some (dT t), some (dT t), some (.lst [dN (bwr t), dN (ewr t)]), none, some (dN (List.range' 1 t.length)), x5, x6, none, none] = .ok ((ewr t).map fun k : Nat => D.int (k : Int)) [some (dT t), some (dT t), some (.lst [dN (bwr t), dN (ewr t)]), none, some (dN (List.range' 1 t.length)), x5, x6, none, none] := fun x5 x6 =>
    lc_nat (is := [7]) (tg := tgN 7) (t := tB (eCall F__law_by_trial (aCons (eV 0) (aCons (eSl (eV 0) (oSome (e2 gSub (eN gLen (aCons (eV 0) aNil)) (eV 7))) oNone) (aCons (eC (.bl true)) (aCons (eC (.bl false)) aNil)))))) (fe := eV 7) (e := [some (dT t), some (dT t), some (.lst [dN (bwr t), dN (ewr t)]), none, some (dN (List.range' 1 t.length)), x5, x6, none, none]) (fun k => raV t (t.drop (t.length - k))) (fun k => .int (k : Int)) (List.range' 1 t.length) rl
    (fun k hk => by
      obtain ⟨k1, k2⟩ := List.mem_range'_1.mp hk
      have dl : (t.drop (t.length - k)).length = k := by rw [List.length_drop]; omega
      have kl : 0 < (t.drop (t.length - k)).length := by omega
      have rv := by_trial_val ht (ht.drop (t.length - k)) kl (by omega) (by omega) (ah := true) (bh := false)
      rw [(trial_same p0 kl).2.1] at rv
      have ct : cutA t (some ((t.length : Int) - (k : Int))) none = t.drop (t.length - k) := by
        rw [show (t.length : Int) - (k : Int) = ((t.length - k : Nat) : Int) by omega]; exact cutA_from _ _
      refine ⟨_, [some (dT t), some (dT t), some (.lst [dN (bwr t), dN (ewr t)]), none, some (dN (List.range' 1 t.length)), x5, x6, some (.int (k : Int)), none], rfl, ?_, fun _ => ⟨_, rfl, rfl⟩, fun _ => rfl⟩
      generalize (List.range' 1 t.length) = RR
      generalize (D.lst [dN (bwr t), dN (ewr t)]) = DD
      simp [cutA_map, ct, rv, -List.map_drop])
  have nb : gNe (dN (bwr t)) (dN (bwr t)) = some (.bl false) := by rw [gNe_dN]; simp
  have ne : gNe (dN (ewr t)) (dN (ewr t)) = some (.bl false) := by rw [gNe_dN]; simp
  have n2 := gNe_self (lay_two2 (bwr t) (ewr t))
  have nt := gNe_self (lay_dT (n := 63) ht.ok)
  have i0 : L2.atI [dN (bwr t), dN (ewr t)] 0 = some (dN (bwr t)) := rfl
  have i1 : L2.atI [dN (bwr t), dN (ewr t)] 1 = some (dN (ewr t)) := rfl
  have f1 := flat_dN (bwr t)
  have f2 := flat_dN (ewr t)
  have L2' : (2 : Nat) ≤ LIM := by decide
  -- a turn
  have turn : ∀ (i : Int) (x4 x5 : Option D), ∃ y5, B__law_right_v25_l2 [some (dT t), some (dT t), some (.lst [dN (bwr t), dN (ewr t)]), some (.int i), x4, x5, none, none, none] = .ok .nx [some (dT t), some (dT t), some (.lst [dN (bwr t), dN (ewr t)]), some (.int i), x4, y5, none, none, none] := fun i x4 x5 => by
    have wk := walk18 (a := bwr t) (b := ewr t) (by omega) (by omega) (x0 := some (dT t)) (x1 := some (dT t)) (x2 := some (.lst [dN (bwr t), dN (ewr t)])) (x3 := some (.int i)) (x4 := x4) (x6 := none)
    refine ⟨some (.lst [dN (bwr t ++ [0]), dN (ewr t ++ [0])]), ?_⟩
    generalize dN (bwr t ++ [0]) = B0 at *
    generalize dN (ewr t ++ [0]) = E0 at *
    generalize dN (bwr t) = B1 at *
    generalize dN (ewr t) = E1 at *
    simp [B__law_right_v25_l2, bv, ev, f1, f2, L2', n2, nt, wk]
  have s2 : smallI (2 : Int) = true := by decide
  have r2 : rngD 0 2 = [.int 0, .int 1] := rfl
  refine ⟨dT t, ?_⟩
  have loop : ∀ x4 x5, ∃ y5, sForL (tgN 3) B__law_right_v25_l2 [.int 0, .int 1] [some (dT t), some (dT t), some (.lst [dN (bwr t), dN (ewr t)]), none, x4, x5, none, none, none] = .ok .nx [some (dT t), some (dT t), some (.lst [dN (bwr t), dN (ewr t)]), some (.int 1), x4, y5, none, none, none] := fun x4 x5 => by
    obtain ⟨y5, t1⟩ := turn 0 x4 x5
    obtain ⟨z5, t2⟩ := turn 1 x4 y5
    refine ⟨z5, ?_⟩
    rw [for_step rfl t1, for_step rfl t2]
    rfl
  simp only [F__law_right_v25, r_runF, B__law_right_v25]
  by_cases c : t.length < 17
  · have c' : (t.length : Int) < 17 := by omega
    obtain ⟨y5, lp⟩ := loop (some (dN (List.range' 1 t.length))) none
    have h1 := h1 none none
    have h2 := h2 none none
    unfold dN at *
    generalize ((bwr t).map fun k : Nat => D.int (k : Int)) = BB at *
    generalize ((ewr t).map fun k : Nat => D.int (k : Int)) = EE at *
    generalize ((List.range' 1 t.length).map fun k : Nat => D.int (k : Int)) = RR at *
    simp [dv, c', c, ru, i0, i1, h1, h2, nb, ne, s2, r2, lp, -gLR2_i]
  · have c' : ¬ (t.length : Int) < 17 := by omega
    obtain ⟨y5, lp⟩ := loop none none
    unfold dN at *
    generalize ((bwr t).map fun k : Nat => D.int (k : Int)) = BB at *
    generalize ((ewr t).map fun k : Nat => D.int (k : Int)) = EE at *
    simp [dv, c', c, s2, r2, lp]
end
theorem k18_one {u : List Str} (hu : Tx u) (hl : u.length ≤ 200) {x0 x1 x2 x3 x4 x5 x6 : Option D} : B_law_k18_l1 [x0, x1, x2, x3, x4, x5, x6, some (dT u)] = .ok .nx [x0, x1, x2, x3, x4, x5, x6, some (dT u)] := by
  have ge := gNe_nT hu.ok
  by_cases c : u = []
  · rw [decide_eq_true c] at ge
    simp [B_law_k18_l1, hsz0, ge]
  · rw [decide_eq_false c] at ge
    obtain ⟨io, r⟩ := right24_ok hu c (by omega)
    simp [B_law_k18_l1, hsz0, ge, r]
theorem k18_cell {q : D} {c : Int} {xs : List (Option D)} (hx : xs.length = 6) : ∃ ys, ys.length = 6 ∧ B_law_k18_l2 (some q :: some (.int c) :: xs) = .ok .nx (some q :: some (.int c) :: ys) := by
  match xs, hx with
  | [x2, x3, x4, x5, x6, x7], _ =>
  obtain ⟨h, io, a1, a2⟩ := deck_ok c
  obtain ⟨t, w, h1, b1, b2, b3, b4, b5, b6, b7, b8⟩ := dpair_ok a2 true
  have z4 : (4 : Nat) ≤ PySem.sizeLine := by decide
  obtain ⟨r1, h2, d1, d2, d3⟩ := dk_nat (m := w.length + 1) b8 (by omega)
  have d1 : F__law_take_v3 [dI h1, .int ((w.length : Int) + 1)] = .ok (.int r1) (dI h2) := d1
  obtain ⟨r2, h3, e1, e2', e3⟩ := dk_nat (m := 4) d3 (by decide)
  have e1 : F__law_take_v3 [dI h2, .int 4] = .ok (.int r2) (dI h3) := e1
  have bd : w.length * (1 + r2) ≤ w.length * 4 := Nat.mul_le_mul (Nat.le_refl _) (by omega)
  have km : gMul (dT w) (.int (1 + (r2 : Int))) = some (dT (List.replicate (1 + r2) w).flatten) := gMul_dT (t := w) (k := 1 + r2) (by omega) (by omega)
  have rl := rep_len w (1 + r2)
  rw [Nat.mul_comm] at rl
  have tr := tx_rep b5 (1 + r2)
  generalize (List.replicate (1 + r2) w).flatten = R at *
  have tl : (w.take r1).length ≤ w.length := by rw [List.length_take]; omega
  have ct : cutA w none (some (r1 : Int)) = w.take r1 := cutA_to w r1
  have ctd : cutA w (some (r1 : Int)) none = w.drop r1 := cutA_from w r1
  have L1 : R.length + (w.take r1).length ≤ LIM := by show _ ≤ 100000; omega
  have tT : Tx (R ++ w.take r1) := tr.append (b5.take r1)
  have m1 := mapA R (w.take r1)
  have lT : (R ++ w.take r1).length ≤ 300 := by rw [List.length_append]; omega
  generalize w.take r1 = P at *
  generalize R ++ P = T at *
  have c9 : cutA t none (some (9 : Int)) = t.take 9 := cutA_to t 9
  have c40 : cutA T none (some (40 : Int)) = T.take 40 := cutA_to T 40
  have dl : (w.drop r1).length ≤ w.length := by rw [List.length_drop]; omega
  have tD := b5.drop r1
  generalize w.drop r1 = Q at *
  have L2 : Q.length + T.length ≤ LIM := by show _ ≤ 100000; omega
  have m2 := mapA Q T
  have c40b : cutA (Q ++ T) none (some (40 : Int)) = (Q ++ T).take 40 := cutA_to _ 40
  have s1 := k18_one (u := t) b2 (by omega) (x0 := some q) (x1 := some (.int c)) (x2 := some (dI h3)) (x3 := some (dT t)) (x4 := some (dT w)) (x5 := some (.int (r1 : Int))) (x6 := some (dT T))
  have s2 := k18_one (u := t.take 9) (b2.take 9) (by rw [List.length_take]; omega) (x0 := some q) (x1 := some (.int c)) (x2 := some (dI h3)) (x3 := some (dT t)) (x4 := some (dT w)) (x5 := some (.int (r1 : Int))) (x6 := some (dT T))
  have s3 := k18_one (u := T.take 40) (tT.take 40) (by rw [List.length_take]; omega) (x0 := some q) (x1 := some (.int c)) (x2 := some (dI h3)) (x3 := some (dT t)) (x4 := some (dT w)) (x5 := some (.int (r1 : Int))) (x6 := some (dT T))
  have s4 := k18_one (u := (Q ++ T).take 40) ((tD.append tT).take 40) (by rw [List.length_take]; omega) (x0 := some q) (x1 := some (.int c)) (x2 := some (dI h3)) (x3 := some (dT t)) (x4 := some (dT w)) (x5 := some (.int (r1 : Int))) (x6 := some (dT T))
  generalize (Q ++ T).take 40 = U4 at *
  generalize T.take 40 = U3 at *
  generalize t.take 9 = U2 at *
  generalize hQT : Q ++ T = QT at *
  have lp : sForL (tgN 7) B_law_k18_l1 [dT t, dT U2, dT U3, dT U4] [some q, some (.int c), some (dI h3), some (dT t), some (dT w), some (.int (r1 : Int)), some (dT T), x7] = .ok .nx [some q, some (.int c), some (dI h3), some (dT t), some (dT w), some (.int (r1 : Int)), some (dT T), some (dT U4)] := by
    rw [for_step rfl s1, for_step rfl s2, for_step rfl s3, for_step rfl s4]
    rfl
  refine ⟨[some (dI h3), some (dT t), some (dT w), some (.int (r1 : Int)), some (dT T), some (dT U4)], rfl, ?_⟩
  simp [B_law_k18_l2, a1, List.all_map, b1, d1, e1, km, cutA_map, ct, ctd, L1, m1, c9, c40, L2, m2, c40b, z4, lp]
theorem true_law_k18 (ns : List Int) (hl : ns.length ≤ 63) : ∃ io, F_law_k18 [.lst (ns.map .int)] = .ok (.bl true) io := by
  obtain ⟨cs, hcs⟩ := cells_seq ns hl 3
  obtain ⟨y1, ys, _, h1⟩ := for_cells (q := .lst (ns.map .int)) (fun c xs hx => k18_cell (q := .lst (ns.map .int)) (c := c) hx) cs none (List.replicate 6 none) rfl
  refine ⟨.lst (ns.map .int), ?_⟩
  have hcs := hcs (none :: List.replicate 6 none)
  have hcs : (iL (e2 gAdd (eSlQ 0 oNone (oSome (eC (.int 3)))) (eN gLst (aCons (eCallQ F__law_cell_at 0 (aCons (eC (.int 0)) aNil)) aNil)))) (some (.lst (ns.map .int)) :: none :: List.replicate 6 none) = .ok (cs.map .int) (some (.lst (ns.map .int)) :: none :: List.replicate 6 none) := hcs
  simp only [F_law_k18, r_runF, B_law_k18, r_envOf, r_sSeq, r_sFor]
  have e0 : [D.lst (ns.map .int)].map some ++ List.replicate (8 - [D.lst (ns.map .int)].length) none = some (.lst (ns.map .int)) :: none :: List.replicate 6 none := rfl
  rw [e0, hcs, rb_ok, h1]
  simp
end Ov
namespace Lk18
open PySem PySem.Spec PyProof.Rows L2 MV Ov
def topS (i : Nat) : Stmt := PySem.Challenge.pw_overlaid_k18_beginnings_and_ends_with_re.main.body.getD i (.Pass ⟨0, 0, 0, 0⟩)
abbrev s_need_word : Stmt := topS 7
abbrev N_need_word : List Str := [Str.ofString "word"]
abbrev ps_need_word : List Str := [Str.ofString "word"]
theorem sc_need_word : FnScope N_need_word ps_need_word (defScope s_need_word) := ⟨rfl, rfl, rfl, by decide +kernel, rfl, by decide +kernel, by decide +kernel⟩
def cf_need_word (K : PySem.W.Frag) (mg : Str → Option Value) : Cf := ⟨K, fun i => [Kd.S].getD i .S, cvK K⟩
abbrev s_need_signs : Stmt := topS 8
abbrev N_need_signs : List Str := [Str.ofString "signs", Str.ofString "sign"]
abbrev ps_need_signs : List Str := [Str.ofString "signs"]
theorem sc_need_signs : FnScope N_need_signs ps_need_signs (defScope s_need_signs) := ⟨rfl, rfl, rfl, by decide +kernel, rfl, by decide +kernel, by decide +kernel⟩
def cf_need_signs (K : PySem.W.Frag) (mg : Str → Option Value) : Cf := ⟨K, fun i => [Kd.S, Kd.S].getD i .S, cvK K⟩
abbrev s_need_text : Stmt := topS 9
abbrev N_need_text : List Str := [Str.ofString "text"]
abbrev ps_need_text : List Str := [Str.ofString "text"]
theorem sc_need_text : FnScope N_need_text ps_need_text (defScope s_need_text) := ⟨rfl, rfl, rfl, by decide +kernel, rfl, by decide +kernel, by decide +kernel⟩
def cf_need_text (K : PySem.W.Frag) (mg : Str → Option Value) : Cf := ⟨K, fun i => [Kd.S].getD i .S, cvK K⟩
abbrev s_laid_at : Stmt := topS 10
abbrev N_laid_at : List Str := [Str.ofString "text", Str.ofString "word", Str.ofString "size", Str.ofString "place"]
abbrev ps_laid_at : List Str := [Str.ofString "text", Str.ofString "word"]
theorem sc_laid_at : FnScope N_laid_at ps_laid_at (defScope s_laid_at) := ⟨rfl, rfl, rfl, by decide +kernel, rfl, by decide +kernel, by decide +kernel⟩
def cf_laid_at (K : PySem.W.Frag) (mg : Str → Option Value) : Cf := ⟨K, fun i => [Kd.S, Kd.S, Kd.S, Kd.S].getD i .S, cvK K⟩
abbrev s_hung_ahead : Stmt := topS 14
abbrev N_hung_ahead : List Str := [Str.ofString "text", Str.ofString "word", Str.ofString "length"]
abbrev ps_hung_ahead : List Str := [Str.ofString "text", Str.ofString "word"]
theorem sc_hung_ahead : FnScope N_hung_ahead ps_hung_ahead (defScope s_hung_ahead) := ⟨rfl, rfl, rfl, by decide +kernel, rfl, by decide +kernel, by decide +kernel⟩
def cf_hung_ahead (K : PySem.W.Frag) (mg : Str → Option Value) : Cf := ⟨K, fun i => [Kd.S, Kd.S, Kd.S].getD i .S, cvK K⟩
abbrev s_hung_behind : Stmt := topS 15
abbrev N_hung_behind : List Str := [Str.ofString "text", Str.ofString "word", Str.ofString "length"]
abbrev ps_hung_behind : List Str := [Str.ofString "text", Str.ofString "word"]
theorem sc_hung_behind : FnScope N_hung_behind ps_hung_behind (defScope s_hung_behind) := ⟨rfl, rfl, rfl, by decide +kernel, rfl, by decide +kernel, by decide +kernel⟩
def cf_hung_behind (K : PySem.W.Frag) (mg : Str → Option Value) : Cf := ⟨K, fun i => [Kd.S, Kd.S, Kd.S].getD i .S, cvK K⟩
abbrev s__law_cell_at : Stmt := topS 22
abbrev N__law_cell_at : List Str := [Str.ofString "script", Str.ofString "k"]
abbrev ps__law_cell_at : List Str := [Str.ofString "script", Str.ofString "k"]
theorem sc__law_cell_at : FnScope N__law_cell_at ps__law_cell_at (defScope s__law_cell_at) := ⟨rfl, rfl, rfl, by decide +kernel, rfl, by decide +kernel, by decide +kernel⟩
def cf__law_cell_at (K : PySem.W.Frag) (mg : Str → Option Value) : Cf := ⟨K, fun i => [Kd.Q, Kd.S].getD i .S, cvK K⟩
abbrev s__law_deck : Stmt := topS 23
abbrev N__law_deck : List Str := [Str.ofString "cell"]
abbrev ps__law_deck : List Str := [Str.ofString "cell"]
theorem sc__law_deck : FnScope N__law_deck ps__law_deck (defScope s__law_deck) := ⟨rfl, rfl, rfl, by decide +kernel, rfl, by decide +kernel, by decide +kernel⟩
def cf__law_deck (K : PySem.W.Frag) (mg : Str → Option Value) : Cf := ⟨K, fun i => [Kd.S].getD i .S, cvK K⟩
abbrev s__law_take : Stmt := topS 24
abbrev N__law_take : List Str := [Str.ofString "deck", Str.ofString "many", Str.ofString "stir", Str.ofString "digit"]
abbrev ps__law_take : List Str := [Str.ofString "deck", Str.ofString "many"]
theorem sc__law_take : FnScope N__law_take ps__law_take (defScope s__law_take) := ⟨rfl, rfl, rfl, by decide +kernel, rfl, by decide +kernel, by decide +kernel⟩
def cf__law_take (K : PySem.W.Frag) (mg : Str → Option Value) : Cf := ⟨K, fun i => [Kd.W, Kd.S, Kd.S, Kd.S].getD i .S, cvK K⟩
abbrev s__law_is_covered : Stmt := topS 31
abbrev N__law_is_covered : List Str := [Str.ofString "text", Str.ofString "word", Str.ofString "behind", Str.ofString "place"]
abbrev ps__law_is_covered : List Str := [Str.ofString "text", Str.ofString "word"]
theorem sc__law_is_covered : FnScope N__law_is_covered ps__law_is_covered (defScope s__law_is_covered) := ⟨rfl, rfl, rfl, by decide +kernel, rfl, by decide +kernel, by decide +kernel⟩
def cf__law_is_covered (K : PySem.W.Frag) (mg : Str → Option Value) : Cf := ⟨K, fun i => [Kd.S, Kd.S, Kd.S, Kd.S].getD i .S, cvK K⟩
abbrev s__law_rest : Stmt := topS 33
abbrev N__law_rest : List Str := [Str.ofString "text", Str.ofString "word", Str.ofString "ahead", Str.ofString "behind", Str.ofString "done", Str.ofString "one", Str.ofString "place", Str.ofString "own", Str.ofString "near"]
abbrev ps__law_rest : List Str := [Str.ofString "text", Str.ofString "word", Str.ofString "ahead", Str.ofString "behind"]
theorem sc__law_rest : FnScope N__law_rest ps__law_rest (defScope s__law_rest) := ⟨rfl, rfl, rfl, by decide +kernel, rfl, by decide +kernel, by decide +kernel⟩
def cf__law_rest (K : PySem.W.Frag) (mg : Str → Option Value) : Cf := ⟨K, fun i => [Kd.S, Kd.S, Kd.S, Kd.S, Kd.S, Kd.S, Kd.S, Kd.S, Kd.S].getD i .S, cvK K⟩
abbrev s_need_both : Stmt := topS 12
abbrev N_need_both : List Str := [Str.ofString "text", Str.ofString "word"]
abbrev ps_need_both : List Str := [Str.ofString "text", Str.ofString "word"]
theorem sc_need_both : FnScope N_need_both ps_need_both (defScope s_need_both) := ⟨rfl, rfl, rfl, by decide +kernel, rfl, by decide +kernel, by decide +kernel⟩
def cf_need_both (K : PySem.W.Frag) (mg : Str → Option Value) : Cf := ⟨K, fun i => [Kd.S, Kd.S].getD i .S, cvK K⟩
abbrev s_covers_amid : Stmt := topS 16
abbrev N_covers_amid : List Str := [Str.ofString "text", Str.ofString "word", Str.ofString "begin", Str.ofString "end", Str.ofString "behind", Str.ofString "place"]
abbrev ps_covers_amid : List Str := [Str.ofString "text", Str.ofString "word", Str.ofString "begin", Str.ofString "end"]
theorem sc_covers_amid : FnScope N_covers_amid ps_covers_amid (defScope s_covers_amid) := ⟨rfl, rfl, rfl, by decide +kernel, rfl, by decide +kernel, by decide +kernel⟩
def cf_covers_amid (K : PySem.W.Frag) (mg : Str → Option Value) : Cf := ⟨K, fun i => [Kd.S, Kd.S, Kd.S, Kd.S, Kd.S, Kd.S].getD i .S, cvK K⟩
abbrev s__law_letters : Stmt := topS 25
abbrev N__law_letters : List Str := [Str.ofString "deck", Str.ofString "every", Str.ofString "first", Str.ofString "step", Str.ofString "many", Str.ofString "k"]
abbrev ps__law_letters : List Str := [Str.ofString "deck"]
theorem sc__law_letters : FnScope N__law_letters ps__law_letters (defScope s__law_letters) := ⟨rfl, rfl, rfl, by decide +kernel, rfl, by decide +kernel, by decide +kernel⟩
def cf__law_letters (K : PySem.W.Frag) (mg : Str → Option Value) : Cf := ⟨K, fun i => [Kd.W, Kd.S, Kd.S, Kd.S, Kd.S, Kd.S].getD i .S, cvK K⟩
abbrev s__law_signs : Stmt := topS 26
abbrev N__law_signs : List Str := [Str.ofString "deck", Str.ofString "letters", Str.ofString "many", Str.ofString "k"]
abbrev ps__law_signs : List Str := [Str.ofString "deck", Str.ofString "letters", Str.ofString "many"]
theorem sc__law_signs : FnScope N__law_signs ps__law_signs (defScope s__law_signs) := ⟨rfl, rfl, rfl, by decide +kernel, rfl, by decide +kernel, by decide +kernel⟩
def cf__law_signs (K : PySem.W.Frag) (mg : Str → Option Value) : Cf := ⟨K, fun i => [Kd.W, Kd.S, Kd.S, Kd.S].getD i .S, cvK K⟩
abbrev s__law_by_trial : Stmt := topS 32
abbrev N__law_by_trial : List Str := [Str.ofString "text", Str.ofString "word", Str.ofString "ahead", Str.ofString "behind", Str.ofString "one", Str.ofString "other", Str.ofString "end"]
abbrev ps__law_by_trial : List Str := [Str.ofString "text", Str.ofString "word", Str.ofString "ahead", Str.ofString "behind"]
theorem sc__law_by_trial : FnScope N__law_by_trial ps__law_by_trial (defScope s__law_by_trial) := ⟨rfl, rfl, rfl, by decide +kernel, rfl, by decide +kernel, by decide +kernel⟩
def cf__law_by_trial (K : PySem.W.Frag) (mg : Str → Option Value) : Cf := ⟨K, fun i => [Kd.S, Kd.S, Kd.S, Kd.S, Kd.S, Kd.S, Kd.S].getD i .S, cvK K⟩
abbrev s__law_due : Stmt := topS 34
abbrev N__law_due : List Str := [Str.ofString "text", Str.ofString "every", Str.ofString "first", Str.ofString "k"]
abbrev ps__law_due : List Str := [Str.ofString "text"]
theorem sc__law_due : FnScope N__law_due ps__law_due (defScope s__law_due) := ⟨rfl, rfl, rfl, by decide +kernel, rfl, by decide +kernel, by decide +kernel⟩
def cf__law_due (K : PySem.W.Frag) (mg : Str → Option Value) : Cf := ⟨K, fun i => [Kd.S, Kd.N, Kd.N, Kd.S].getD i .S, cvK K⟩
abbrev s_rest_behind : Stmt := topS 17
abbrev N_rest_behind : List Str := [Str.ofString "text", Str.ofString "word"]
abbrev ps_rest_behind : List Str := [Str.ofString "text", Str.ofString "word"]
theorem sc_rest_behind : FnScope N_rest_behind ps_rest_behind (defScope s_rest_behind) := ⟨rfl, rfl, rfl, by decide +kernel, rfl, by decide +kernel, by decide +kernel⟩
def cf_rest_behind (K : PySem.W.Frag) (mg : Str → Option Value) : Cf := ⟨K, fun i => [Kd.S, Kd.S].getD i .S, cvK K⟩
abbrev s_rest_ahead : Stmt := topS 18
abbrev N_rest_ahead : List Str := [Str.ofString "text", Str.ofString "word"]
abbrev ps_rest_ahead : List Str := [Str.ofString "text", Str.ofString "word"]
theorem sc_rest_ahead : FnScope N_rest_ahead ps_rest_ahead (defScope s_rest_ahead) := ⟨rfl, rfl, rfl, by decide +kernel, rfl, by decide +kernel, by decide +kernel⟩
def cf_rest_ahead (K : PySem.W.Frag) (mg : Str → Option Value) : Cf := ⟨K, fun i => [Kd.S, Kd.S].getD i .S, cvK K⟩
abbrev s__law_word : Stmt := topS 27
abbrev N__law_word : List Str := [Str.ofString "deck", Str.ofString "letters", Str.ofString "most", Str.ofString "way", Str.ofString "one"]
abbrev ps__law_word : List Str := [Str.ofString "deck", Str.ofString "letters", Str.ofString "most"]
theorem sc__law_word : FnScope N__law_word ps__law_word (defScope s__law_word) := ⟨rfl, rfl, rfl, by decide +kernel, rfl, by decide +kernel, by decide +kernel⟩
def cf__law_word (K : PySem.W.Frag) (mg : Str → Option Value) : Cf := ⟨K, fun i => [Kd.W, Kd.S, Kd.S, Kd.S, Kd.N].getD i .S, cvK K⟩
abbrev s__law_overlaid : Stmt := topS 28
abbrev N__law_overlaid : List Str := [Str.ofString "deck", Str.ofString "letters", Str.ofString "word", Str.ofString "many", Str.ofString "found", Str.ofString "k", Str.ofString "some", Str.ofString "over", Str.ofString "j"]
abbrev ps__law_overlaid : List Str := [Str.ofString "deck", Str.ofString "letters", Str.ofString "word", Str.ofString "many"]
theorem sc__law_overlaid : FnScope N__law_overlaid ps__law_overlaid (defScope s__law_overlaid) := ⟨rfl, rfl, rfl, by decide +kernel, rfl, by decide +kernel, by decide +kernel⟩
def cf__law_overlaid (K : PySem.W.Frag) (mg : Str → Option Value) : Cf := ⟨K, fun i => [Kd.W, Kd.S, Kd.S, Kd.S, Kd.N, Kd.S, Kd.S, Kd.S, Kd.S].getD i .S, cvK K⟩
abbrev s__law_bent : Stmt := topS 29
abbrev N__law_bent : List Str := [Str.ofString "deck", Str.ofString "letters", Str.ofString "text", Str.ofString "at", Str.ofString "way"]
abbrev ps__law_bent : List Str := [Str.ofString "deck", Str.ofString "letters", Str.ofString "text"]
theorem sc__law_bent : FnScope N__law_bent ps__law_bent (defScope s__law_bent) := ⟨rfl, rfl, rfl, by decide +kernel, rfl, by decide +kernel, by decide +kernel⟩
def cf__law_bent (K : PySem.W.Frag) (mg : Str → Option Value) : Cf := ⟨K, fun i => [Kd.W, Kd.S, Kd.S, Kd.S, Kd.S].getD i .S, cvK K⟩
abbrev s_beginnings_with_rest : Stmt := topS 19
abbrev N_beginnings_with_rest : List Str := [Str.ofString "text", Str.ofString "length"]
abbrev ps_beginnings_with_rest : List Str := [Str.ofString "text"]
theorem sc_beginnings_with_rest : FnScope N_beginnings_with_rest ps_beginnings_with_rest (defScope s_beginnings_with_rest) := ⟨rfl, rfl, rfl, by decide +kernel, rfl, by decide +kernel, by decide +kernel⟩
def cf_beginnings_with_rest (K : PySem.W.Frag) (mg : Str → Option Value) : Cf := ⟨K, fun i => [Kd.S, Kd.S].getD i .S, cvK K⟩
abbrev s_ends_with_rest : Stmt := topS 20
abbrev N_ends_with_rest : List Str := [Str.ofString "text", Str.ofString "length"]
abbrev ps_ends_with_rest : List Str := [Str.ofString "text"]
theorem sc_ends_with_rest : FnScope N_ends_with_rest ps_ends_with_rest (defScope s_ends_with_rest) := ⟨rfl, rfl, rfl, by decide +kernel, rfl, by decide +kernel, by decide +kernel⟩
def cf_ends_with_rest (K : PySem.W.Frag) (mg : Str → Option Value) : Cf := ⟨K, fun i => [Kd.S, Kd.S].getD i .S, cvK K⟩
abbrev s__law_pair : Stmt := topS 30
abbrev N__law_pair : List Str := [Str.ofString "deck", Str.ofString "long", Str.ofString "letters", Str.ofString "word", Str.ofString "text", Str.ofString "begin", Str.ofString "end"]
abbrev ps__law_pair : List Str := [Str.ofString "deck", Str.ofString "long"]
theorem sc__law_pair : FnScope N__law_pair ps__law_pair (defScope s__law_pair) := ⟨rfl, rfl, rfl, by decide +kernel, rfl, by decide +kernel, by decide +kernel⟩
def cf__law_pair (K : PySem.W.Frag) (mg : Str → Option Value) : Cf := ⟨K, fun i => [Kd.W, Kd.S, Kd.N, Kd.N, Kd.N, Kd.S, Kd.S].getD i .S, cvK K⟩
abbrev s__law_right : Stmt := topS 35
abbrev N__law_right : List Str := [Str.ofString "text", Str.ofString "handed", Str.ofString "due", Str.ofString "again", Str.ofString "every", Str.ofString "found", Str.ofString "some", Str.ofString "k", Str.ofString "one"]
abbrev ps__law_right : List Str := [Str.ofString "text"]
theorem sc__law_right : FnScope N__law_right ps__law_right (defScope s__law_right) := ⟨rfl, rfl, rfl, by decide +kernel, rfl, by decide +kernel, by decide +kernel⟩
def cf__law_right (K : PySem.W.Frag) (mg : Str → Option Value) : Cf := ⟨K, fun i => [Kd.S, Kd.S, Kd.S, Kd.S, Kd.S, Kd.P, Kd.S, Kd.S, Kd.S].getD i .S, cvK K⟩
abbrev s_law : Stmt := topS 36
abbrev N_law : List Str := [Str.ofString "script", Str.ofString "cell", Str.ofString "deck", Str.ofString "text", Str.ofString "word", Str.ofString "at", Str.ofString "told", Str.ofString "some"]
abbrev ps_law : List Str := [Str.ofString "script"]
theorem sc_law : FnScope N_law ps_law (defScope s_law) := ⟨rfl, rfl, rfl, by decide +kernel, rfl, by decide +kernel, by decide +kernel⟩
def cf_law (K : PySem.W.Frag) (mg : Str → Option Value) : Cf := ⟨K, fun i => [Kd.Q, Kd.S, Kd.W, Kd.S, Kd.S, Kd.S, Kd.S, Kd.S].getD i .S, cvK K⟩
structure Tp (K : PySem.W.Frag) (mg : Str → Option Value) where
  f_need_word : Addr
  d_need_word : FuncData
  F_need_word : Fun K (Str.ofString "need_word") (Str.ofString "need_word") s_need_word f_need_word d_need_word
  g_need_word : mg (Str.ofString "need_word") = some (.ref f_need_word)
  b_need_word : Binds K d_need_word ps_need_word []
  f_need_signs : Addr
  d_need_signs : FuncData
  F_need_signs : Fun K (Str.ofString "need_signs") (Str.ofString "need_signs") s_need_signs f_need_signs d_need_signs
  g_need_signs : mg (Str.ofString "need_signs") = some (.ref f_need_signs)
  b_need_signs : Binds K d_need_signs ps_need_signs []
  f_need_text : Addr
  d_need_text : FuncData
  F_need_text : Fun K (Str.ofString "need_text") (Str.ofString "need_text") s_need_text f_need_text d_need_text
  g_need_text : mg (Str.ofString "need_text") = some (.ref f_need_text)
  b_need_text : Binds K d_need_text ps_need_text []
  f_laid_at : Addr
  d_laid_at : FuncData
  F_laid_at : Fun K (Str.ofString "laid_at") (Str.ofString "laid_at") s_laid_at f_laid_at d_laid_at
  g_laid_at : mg (Str.ofString "laid_at") = some (.ref f_laid_at)
  b_laid_at : Binds K d_laid_at ps_laid_at []
  f_hung_ahead : Addr
  d_hung_ahead : FuncData
  F_hung_ahead : Fun K (Str.ofString "hung_ahead") (Str.ofString "hung_ahead") s_hung_ahead f_hung_ahead d_hung_ahead
  g_hung_ahead : mg (Str.ofString "hung_ahead") = some (.ref f_hung_ahead)
  b_hung_ahead : Binds K d_hung_ahead ps_hung_ahead []
  f_hung_behind : Addr
  d_hung_behind : FuncData
  F_hung_behind : Fun K (Str.ofString "hung_behind") (Str.ofString "hung_behind") s_hung_behind f_hung_behind d_hung_behind
  g_hung_behind : mg (Str.ofString "hung_behind") = some (.ref f_hung_behind)
  b_hung_behind : Binds K d_hung_behind ps_hung_behind []
  f__law_cell_at : Addr
  d__law_cell_at : FuncData
  F__law_cell_at : Fun K (Str.ofString "_law_cell_at") (Str.ofString "_law_cell_at") s__law_cell_at f__law_cell_at d__law_cell_at
  g__law_cell_at : mg (Str.ofString "_law_cell_at") = some (.ref f__law_cell_at)
  b__law_cell_at : Binds K d__law_cell_at ps__law_cell_at []
  f__law_deck : Addr
  d__law_deck : FuncData
  F__law_deck : Fun K (Str.ofString "_law_deck") (Str.ofString "_law_deck") s__law_deck f__law_deck d__law_deck
  g__law_deck : mg (Str.ofString "_law_deck") = some (.ref f__law_deck)
  b__law_deck : Binds K d__law_deck ps__law_deck []
  f__law_take : Addr
  d__law_take : FuncData
  F__law_take : Fun K (Str.ofString "_law_take") (Str.ofString "_law_take") s__law_take f__law_take d__law_take
  g__law_take : mg (Str.ofString "_law_take") = some (.ref f__law_take)
  b__law_take : Binds K d__law_take ps__law_take []
  f__law_is_covered : Addr
  d__law_is_covered : FuncData
  F__law_is_covered : Fun K (Str.ofString "_law_is_covered") (Str.ofString "_law_is_covered") s__law_is_covered f__law_is_covered d__law_is_covered
  g__law_is_covered : mg (Str.ofString "_law_is_covered") = some (.ref f__law_is_covered)
  b__law_is_covered : Binds K d__law_is_covered ps__law_is_covered []
  f__law_rest : Addr
  d__law_rest : FuncData
  F__law_rest : Fun K (Str.ofString "_law_rest") (Str.ofString "_law_rest") s__law_rest f__law_rest d__law_rest
  g__law_rest : mg (Str.ofString "_law_rest") = some (.ref f__law_rest)
  b__law_rest : Binds K d__law_rest ps__law_rest []
  f_need_both : Addr
  d_need_both : FuncData
  F_need_both : Fun K (Str.ofString "need_both") (Str.ofString "need_both") s_need_both f_need_both d_need_both
  g_need_both : mg (Str.ofString "need_both") = some (.ref f_need_both)
  b_need_both : Binds K d_need_both ps_need_both []
  f_covers_amid : Addr
  d_covers_amid : FuncData
  F_covers_amid : Fun K (Str.ofString "covers_amid") (Str.ofString "covers_amid") s_covers_amid f_covers_amid d_covers_amid
  g_covers_amid : mg (Str.ofString "covers_amid") = some (.ref f_covers_amid)
  b_covers_amid : Binds K d_covers_amid ps_covers_amid []
  f__law_letters : Addr
  d__law_letters : FuncData
  F__law_letters : Fun K (Str.ofString "_law_letters") (Str.ofString "_law_letters") s__law_letters f__law_letters d__law_letters
  g__law_letters : mg (Str.ofString "_law_letters") = some (.ref f__law_letters)
  b__law_letters : Binds K d__law_letters ps__law_letters []
  f__law_signs : Addr
  d__law_signs : FuncData
  F__law_signs : Fun K (Str.ofString "_law_signs") (Str.ofString "_law_signs") s__law_signs f__law_signs d__law_signs
  g__law_signs : mg (Str.ofString "_law_signs") = some (.ref f__law_signs)
  b__law_signs : Binds K d__law_signs ps__law_signs []
  f__law_by_trial : Addr
  d__law_by_trial : FuncData
  F__law_by_trial : Fun K (Str.ofString "_law_by_trial") (Str.ofString "_law_by_trial") s__law_by_trial f__law_by_trial d__law_by_trial
  g__law_by_trial : mg (Str.ofString "_law_by_trial") = some (.ref f__law_by_trial)
  b__law_by_trial : Binds K d__law_by_trial ps__law_by_trial []
  f__law_due : Addr
  d__law_due : FuncData
  F__law_due : Fun K (Str.ofString "_law_due") (Str.ofString "_law_due") s__law_due f__law_due d__law_due
  g__law_due : mg (Str.ofString "_law_due") = some (.ref f__law_due)
  b__law_due : Binds K d__law_due ps__law_due []
  f_rest_behind : Addr
  d_rest_behind : FuncData
  F_rest_behind : Fun K (Str.ofString "rest_behind") (Str.ofString "rest_behind") s_rest_behind f_rest_behind d_rest_behind
  g_rest_behind : mg (Str.ofString "rest_behind") = some (.ref f_rest_behind)
  b_rest_behind : Binds K d_rest_behind ps_rest_behind []
  f_rest_ahead : Addr
  d_rest_ahead : FuncData
  F_rest_ahead : Fun K (Str.ofString "rest_ahead") (Str.ofString "rest_ahead") s_rest_ahead f_rest_ahead d_rest_ahead
  g_rest_ahead : mg (Str.ofString "rest_ahead") = some (.ref f_rest_ahead)
  b_rest_ahead : Binds K d_rest_ahead ps_rest_ahead []
  f__law_word : Addr
  d__law_word : FuncData
  F__law_word : Fun K (Str.ofString "_law_word") (Str.ofString "_law_word") s__law_word f__law_word d__law_word
  g__law_word : mg (Str.ofString "_law_word") = some (.ref f__law_word)
  b__law_word : Binds K d__law_word ps__law_word []
  f__law_overlaid : Addr
  d__law_overlaid : FuncData
  F__law_overlaid : Fun K (Str.ofString "_law_overlaid") (Str.ofString "_law_overlaid") s__law_overlaid f__law_overlaid d__law_overlaid
  g__law_overlaid : mg (Str.ofString "_law_overlaid") = some (.ref f__law_overlaid)
  b__law_overlaid : Binds K d__law_overlaid ps__law_overlaid []
  f__law_bent : Addr
  d__law_bent : FuncData
  F__law_bent : Fun K (Str.ofString "_law_bent") (Str.ofString "_law_bent") s__law_bent f__law_bent d__law_bent
  g__law_bent : mg (Str.ofString "_law_bent") = some (.ref f__law_bent)
  b__law_bent : Binds K d__law_bent ps__law_bent []
  f_beginnings_with_rest : Addr
  d_beginnings_with_rest : FuncData
  F_beginnings_with_rest : Fun K (Str.ofString "beginnings_with_rest") (Str.ofString "beginnings_with_rest") s_beginnings_with_rest f_beginnings_with_rest d_beginnings_with_rest
  g_beginnings_with_rest : mg (Str.ofString "beginnings_with_rest") = some (.ref f_beginnings_with_rest)
  b_beginnings_with_rest : Binds K d_beginnings_with_rest ps_beginnings_with_rest []
  f_ends_with_rest : Addr
  d_ends_with_rest : FuncData
  F_ends_with_rest : Fun K (Str.ofString "ends_with_rest") (Str.ofString "ends_with_rest") s_ends_with_rest f_ends_with_rest d_ends_with_rest
  g_ends_with_rest : mg (Str.ofString "ends_with_rest") = some (.ref f_ends_with_rest)
  b_ends_with_rest : Binds K d_ends_with_rest ps_ends_with_rest []
  f__law_pair : Addr
  d__law_pair : FuncData
  F__law_pair : Fun K (Str.ofString "_law_pair") (Str.ofString "_law_pair") s__law_pair f__law_pair d__law_pair
  g__law_pair : mg (Str.ofString "_law_pair") = some (.ref f__law_pair)
  b__law_pair : Binds K d__law_pair ps__law_pair []
  f__law_right : Addr
  d__law_right : FuncData
  F__law_right : Fun K (Str.ofString "_law_right") (Str.ofString "_law_right") s__law_right f__law_right d__law_right
  g__law_right : mg (Str.ofString "_law_right") = some (.ref f__law_right)
  b__law_right : Binds K d__law_right ps__law_right []
  f_law : Addr
  d_law : FuncData
  F_law : Fun K (Str.ofString "law") (Str.ofString "law") s_law f_law d_law
  g_law : mg (Str.ofString "law") = some (.ref f_law)
  b_law : Binds K d_law ps_law []
  t_LETTERS : Tok
  g_LETTERS : mg (Str.ofString "LETTERS") = some (.str (Str.ofString "abcdefghijklmnopqrstuvwxyz") t_LETTERS)
  m_bool : mg (Str.ofString "bool") = none
  m_int : mg (Str.ofString "int") = none
  m_isinstance : mg (Str.ofString "isinstance") = none
  m_len : mg (Str.ofString "len") = none
  m_list : mg (Str.ofString "list") = none
  m_max : mg (Str.ofString "max") = none
  m_min : mg (Str.ofString "min") = none
  m_range : mg (Str.ofString "range") = none
  C_NoWord : Addr
  X_NoWord : XCls K mg (Str.ofString "NoWord") C_NoWord
  C_NoSign : Addr
  X_NoSign : XCls K mg (Str.ofString "NoSign") C_NoSign
  C_NoText : Addr
  X_NoText : XCls K mg (Str.ofString "NoText") C_NoText
section
variable {P : Program} {w : World} {K : PySem.W.Frag} {mg : Str → Option Value} {base : Heap}
theorem ok_need_word (T : Tp K mg) : FnOk P w K mg base (L2N.CX P w) 1 T.f_need_word T.d_need_word ps_need_word (spP K (cvK K) 1 F_need_word) :=
  fn_P N_need_word ps_need_word 1 1 (cf_need_word K mg) B_need_word rfl rfl T.F_need_word sc_need_word rfl (fun i h1 => by
    match i, h1 with
    | 0, _ => exact rfl
    | i + 1, h => exact absurd h (by simp)) (fun cdv A outer s H E hr tk pw =>
  (sss_one (ss_if (st_eq rfl hr.units (se_vS 0 (pv 0) rfl) (se_lst (c := .V) sa_nil)) (sss_one (ss_raise rfl rfl rfl tk T.X_NoWord)) sss_nil)))
theorem ok_need_signs (T : Tp K mg) : FnOk P w K mg base (L2N.CX P w) 1 T.f_need_signs T.d_need_signs ps_need_signs (spP K (cvK K) 1 F_need_signs) :=
  fn_P N_need_signs ps_need_signs 2 1 (cf_need_signs K mg) B_need_signs rfl rfl T.F_need_signs sc_need_signs rfl (fun i h1 => by
    match i, h1 with
    | 0, _ => exact rfl
    | i + 1, h => exact absurd h (by simp)) (fun cdv A outer s H E hr tk pw =>
  (sss_one (ss_if (st_ne rfl hr.units (se_lc (c := .S) (own := [(Str.ofString "sign", 1)]) rfl (own1 rfl) rfl sc_need_signs.nd (SI.w (si_list rfl (se_vS 0 (pv 0) rfl))) (blkOk_by (own := [(Str.ofString "sign", 1)]) (N := N_need_signs) (sc := (defScope s_need_signs)) (by decide +kernel)) (fun _ _ _ _ _ => (sgt_name (i := 1) (is := [1]) List.mem_cons_self rfl sc_need_signs.nd rfl (Or.inl rfl))) (fun _ _ _ _ _ => (sts_one (st_or2 (st_ne rfl hr.units (se_len rfl T.m_len (sa_cons (se_vS 1 (pv 1) rfl) sa_nil)) se_int) (st_notIn rfl (se_vS 1 (pv 1) rfl) (se_glob (v := (.str (Str.ofString "abcdefghijklmnopqrstuvwxyz"))) (pe_glob (by rfl) T.g_LETTERS ⟨_, rfl⟩) rfl))))) (fun _ _ _ _ _ => (se_vS 1 (pv 1) rfl))) (se_lst (c := .V) sa_nil)) (sss_one (ss_raise rfl rfl rfl tk T.X_NoSign)) sss_nil)))
theorem ok_need_text (T : Tp K mg) : FnOk P w K mg base (L2N.CX P w) 1 T.f_need_text T.d_need_text ps_need_text (spP K (cvK K) 1 F_need_text) :=
  fn_P N_need_text ps_need_text 1 1 (cf_need_text K mg) B_need_text rfl rfl T.F_need_text sc_need_text rfl (fun i h1 => by
    match i, h1 with
    | 0, _ => exact rfl
    | i + 1, h => exact absurd h (by simp)) (fun cdv A outer s H E hr tk pw =>
  (sss_one (ss_if (st_eq rfl hr.units (se_vS 0 (pv 0) rfl) (se_lst (c := .V) sa_nil)) (sss_one (ss_raise rfl rfl rfl tk T.X_NoText)) sss_nil)))
theorem ok_laid_at (T : Tp K mg) : FnOk P w K mg base (L2N.CX P w) 1 T.f_laid_at T.d_laid_at ps_laid_at (spP K (cvK K) 2 F_laid_at) :=
  fn_P N_laid_at ps_laid_at 4 2 (cf_laid_at K mg) B_laid_at rfl rfl T.F_laid_at sc_laid_at rfl (fun i h1 => by
    match i, h1 with
    | 0, _ => exact rfl
    | 1, _ => exact rfl
    | i + 2, h => exact absurd h (by simp)) (fun cdv A outer s H E hr tk pw =>
  (sss_cons (ss_setS (sg_of (i := 2) (SE.le (se_len rfl T.m_len (sa_cons (se_vS 1 (pv 1) rfl) sa_nil)) .vs) sc_laid_at.nd rfl (Or.inr rfl)) rfl)
  (sss_one (ss_ret (SE.le (SE.flat (se_lc (c := .S) (own := [(Str.ofString "place", 3)]) rfl (own1 rfl) rfl sc_laid_at.nd (SI.w (si_range1 (by rfl) T.m_range (sa_cons (SE.le (se_add (se_sub (se_len rfl T.m_len (sa_cons (se_vS 0 (pv 0) rfl) sa_nil)) (se_vS 2 (pv 2) rfl)) se_int) .vb) sa_nil))) (blkOk_by (own := [(Str.ofString "place", 3)]) (N := N_laid_at) (sc := (defScope s_laid_at)) (by decide +kernel)) (fun _ _ _ _ _ => (sgt_name (i := 3) (is := [3]) List.mem_cons_self rfl sc_laid_at.nd rfl (Or.inl rfl))) (fun _ _ _ _ _ => (sts_one (st_eq rfl hr.units (se_sl rfl (se_vS 0 (pv 0) rfl) (so_some (se_vS 3 (pv 3) rfl)) (so_some (se_add (se_vS 3 (pv 3) rfl) (se_vS 2 (pv 2) rfl)))) (se_vS 1 (pv 1) rfl)))) (fun _ _ _ _ _ => (se_vS 3 (pv 3) rfl)))) .vl)))))
theorem ok_hung_ahead (T : Tp K mg) : FnOk P w K mg base (L2N.CX P w) 1 T.f_hung_ahead T.d_hung_ahead ps_hung_ahead (spP K (cvK K) 2 F_hung_ahead) :=
  fn_P N_hung_ahead ps_hung_ahead 3 2 (cf_hung_ahead K mg) B_hung_ahead rfl rfl T.F_hung_ahead sc_hung_ahead rfl (fun i h1 => by
    match i, h1 with
    | 0, _ => exact rfl
    | 1, _ => exact rfl
    | i + 2, h => exact absurd h (by simp)) (fun cdv A outer s H E hr tk pw =>
  (sss_cons (ss_for pw rfl (si_range3 (by rfl) T.m_range (sa_cons (SE.le (se_min2 rfl T.m_min (sa_cons (SE.le (se_len rfl T.m_len (sa_cons (se_vS 0 (pv 0) rfl) sa_nil)) .vb) (sa_cons (SE.le (se_sub (se_len rfl T.m_len (sa_cons (se_vS 1 (pv 1) rfl) sa_nil)) se_int) .vb) sa_nil))) .vb) (sa_cons (SE.le se_int .vb) (sa_cons (SE.le (se_neg se_int) .vb) sa_nil)))) (sgt_name (i := 2) (is := [2]) List.mem_cons_self rfl sc_hung_ahead.nd rfl (Or.inl rfl)) (sss_one (ss_if (st_eq rfl hr.units (se_sl rfl (se_vS 1 (pv 1) rfl) (so_some (se_sub (se_len rfl T.m_len (sa_cons (se_vS 1 (pv 1) rfl) sa_nil)) (se_vS 2 (pv 2) rfl))) so_none) (se_sl rfl (se_vS 0 (pv 0) rfl) so_none (so_some (se_vS 2 (pv 2) rfl)))) (sss_one (ss_ret (SE.le (SE.scal (se_vS 2 (pv 2) rfl)) .vl))) sss_nil)))
  (sss_one (ss_ret (SE.le se_int .vl)))))
theorem ok_hung_behind (T : Tp K mg) : FnOk P w K mg base (L2N.CX P w) 1 T.f_hung_behind T.d_hung_behind ps_hung_behind (spP K (cvK K) 2 F_hung_behind) :=
  fn_P N_hung_behind ps_hung_behind 3 2 (cf_hung_behind K mg) B_hung_behind rfl rfl T.F_hung_behind sc_hung_behind rfl (fun i h1 => by
    match i, h1 with
    | 0, _ => exact rfl
    | 1, _ => exact rfl
    | i + 2, h => exact absurd h (by simp)) (fun cdv A outer s H E hr tk pw =>
  (sss_cons (ss_for pw rfl (si_range3 (by rfl) T.m_range (sa_cons (SE.le (se_min2 rfl T.m_min (sa_cons (SE.le (se_len rfl T.m_len (sa_cons (se_vS 0 (pv 0) rfl) sa_nil)) .vb) (sa_cons (SE.le (se_sub (se_len rfl T.m_len (sa_cons (se_vS 1 (pv 1) rfl) sa_nil)) se_int) .vb) sa_nil))) .vb) (sa_cons (SE.le se_int .vb) (sa_cons (SE.le (se_neg se_int) .vb) sa_nil)))) (sgt_name (i := 2) (is := [2]) List.mem_cons_self rfl sc_hung_behind.nd rfl (Or.inl rfl)) (sss_one (ss_if (st_eq rfl hr.units (se_sl rfl (se_vS 1 (pv 1) rfl) so_none (so_some (se_vS 2 (pv 2) rfl))) (se_sl rfl (se_vS 0 (pv 0) rfl) (so_some (se_sub (se_len rfl T.m_len (sa_cons (se_vS 0 (pv 0) rfl) sa_nil)) (se_vS 2 (pv 2) rfl))) so_none)) (sss_one (ss_ret (SE.le (SE.scal (se_vS 2 (pv 2) rfl)) .vl))) sss_nil)))
  (sss_one (ss_ret (SE.le se_int .vl)))))
theorem ok__law_cell_at (T : Tp K mg) : FnOk P w K mg base (L2N.CX P w) 1 T.f__law_cell_at T.d__law_cell_at ps__law_cell_at (spQ K (cvK K) 2 F__law_cell_at) :=
  fn_Q N__law_cell_at ps__law_cell_at 2 2 (cf__law_cell_at K mg) B__law_cell_at rfl rfl T.F__law_cell_at sc__law_cell_at rfl rfl (fun i h1 h2 => by
    match i, h1, h2 with
    | 1, _, _ => exact rfl
    | i + 2, _, h => exact absurd h (by simp)) (fun cdv A outer s H E hr tk pw =>
  (sss_cons (ss_if (st_lt (se_vS 1 (pv 1) rfl) (se_lenQ rfl T.m_len (pv 0) rfl)) (sss_one (ss_ret (SE.le (se_ixQ rfl (pv 0) rfl (se_vS 1 (pv 1) rfl) (fun _ _ => rfl)) .vl))) sss_nil)
  (sss_one (ss_ret (SE.le se_int .vl)))))
theorem ok__law_deck (T : Tp K mg) : FnOk P w K mg base (L2N.CX P w) 1 T.f__law_deck T.d__law_deck ps__law_deck (spP K (cvK K) 1 F__law_deck) :=
  fn_P N__law_deck ps__law_deck 1 1 (cf__law_deck K mg) B__law_deck rfl rfl T.F__law_deck sc__law_deck rfl (fun i h1 => by
    match i, h1 with
    | 0, _ => exact rfl
    | i + 1, h => exact absurd h (by simp)) (fun cdv A outer s H E hr tk pw =>
  (sss_one (ss_ret (SE.le (se_lst (sa_cons (se_max2 rfl T.m_max (sa_cons (SE.le se_int .vb) (sa_cons (SE.le (se_sub (se_vS 0 (pv 0) rfl) (se_pow se_int se_int)) .vb) sa_nil))) (sa_cons (se_mod (se_vS 0 (pv 0) rfl) se_int) (sa_cons se_int sa_nil)))) .vl))))
theorem ok__law_take (T : Tp K mg) : FnOk P w K mg base (L2N.CX P w) 1 T.f__law_take T.d__law_take ps__law_take (spW K (cvK K) 2 F__law_take_v3) :=
  fn_W N__law_take ps__law_take 4 2 (cf__law_take K mg) B__law_take_v3 rfl rfl T.F__law_take sc__law_take rfl rfl (fun i h1 h2 => by
    match i, h1, h2 with
    | 1, _, _ => exact rfl
    | i + 2, _, h => exact absurd h (by simp)) (fun cdv A outer s H E hr tk pw =>
  (sss_cons (ss_putW (i := 0) (pv 0) rfl (SE.le (se_add (se_ixW rfl (pv 0) rfl se_int (fun _ _ => rfl)) se_int) .vb) (SE.le se_int .vb))
  (sss_cons (ss_if (st_gt (se_ixW rfl (pv 0) rfl se_int (fun _ _ => rfl)) se_int) (sss_cons (ss_setS (sg_of (i := 3) (SE.le (se_mod (se_ixW rfl (pv 0) rfl se_int (fun _ _ => rfl)) se_int) .vs) sc__law_take.nd rfl (Or.inl rfl)) rfl)
  (sss_cons (ss_putW (i := 0) (pv 0) rfl (SE.le (se_fdiv (se_ixW rfl (pv 0) rfl se_int (fun _ _ => rfl)) se_int) .vb) (SE.le se_int .vb))
  (sss_one (ss_ret (SE.le (se_mod (se_vS 3 (pv 3) rfl) (se_vS 1 (pv 1) rfl)) .vl))))) sss_nil)
  (sss_cons (ss_setS (sg_of (i := 2) (SE.le (se_mod (se_mul (se_add (se_ixW rfl (pv 0) rfl se_int (fun _ _ => rfl)) (se_mul se_int (se_ixW rfl (pv 0) rfl se_int (fun _ _ => rfl)))) se_int) se_int) .vs) sc__law_take.nd rfl (Or.inl rfl)) rfl)
  (sss_cons (ss_setS (sg_of (i := 2) (SE.le (se_mod (se_mul (se_vS 2 (pv 2) rfl) (se_vS 2 (pv 2) rfl)) se_int) .vs) sc__law_take.nd rfl (Or.inl rfl)) rfl)
  (sss_one (ss_ret (SE.le (se_mod (se_fdiv (se_mod (se_mul (se_add (se_vS 2 (pv 2) rfl) (SE.le (se_mul se_int (se_ixW rfl (pv 0) rfl se_int (fun _ _ => rfl))) .vs)) (SE.le se_int .vs)) se_int) se_int) (se_vS 1 (pv 1) rfl)) .vl))))))))
theorem ok__law_is_covered (T : Tp K mg) : FnOk P w K mg base (L2N.CX P w) 1 T.f__law_is_covered T.d__law_is_covered ps__law_is_covered (spP K (cvK K) 2 F__law_is_covered) :=
  fn_P N__law_is_covered ps__law_is_covered 4 2 (cf__law_is_covered K mg) B__law_is_covered rfl rfl T.F__law_is_covered sc__law_is_covered rfl (fun i h1 => by
    match i, h1 with
    | 0, _ => exact rfl
    | 1, _ => exact rfl
    | i + 2, h => exact absurd h (by simp)) (fun cdv A outer s H E hr tk pw =>
  (sss_cons (ss_setS (sg_of (i := 2) (SE.le se_int .vs) sc__law_is_covered.nd rfl (Or.inl rfl)) rfl)
  (sss_cons (ss_for pw rfl (si_range1 (by rfl) T.m_range (sa_cons (SE.le (se_add (se_sub (se_len rfl T.m_len (sa_cons (se_vS 0 (pv 0) rfl) sa_nil)) (se_len rfl T.m_len (sa_cons (se_vS 1 (pv 1) rfl) sa_nil))) se_int) .vb) sa_nil)) (sgt_name (i := 3) (is := [3]) List.mem_cons_self rfl sc__law_is_covered.nd rfl (Or.inl rfl)) (sss_one (ss_if (st_and2 (st_le (se_vS 3 (pv 3) rfl) (se_vS 2 (pv 2) rfl)) (st_eq rfl hr.units (se_sl rfl (se_vS 0 (pv 0) rfl) (so_some (se_vS 3 (pv 3) rfl)) (so_some (se_add (se_vS 3 (pv 3) rfl) (SE.le (se_len rfl T.m_len (sa_cons (se_vS 1 (pv 1) rfl) sa_nil)) .vs)))) (se_vS 1 (pv 1) rfl))) (sss_one (ss_setS (sg_of (i := 2) (se_add (se_vS 3 (pv 3) rfl) (SE.le (se_len rfl T.m_len (sa_cons (se_vS 1 (pv 1) rfl) sa_nil)) .vs)) sc__law_is_covered.nd rfl (Or.inl rfl)) rfl)) sss_nil)))
  (sss_one (ss_ret (SE.le (se_ge (se_vS 2 (pv 2) rfl) (se_len rfl T.m_len (sa_cons (se_vS 0 (pv 0) rfl) sa_nil))) .vl))))))
theorem ok__law_rest (T : Tp K mg) : FnOk P w K mg base (L2N.CX P w) 1 T.f__law_rest T.d__law_rest ps__law_rest (spP K (cvK K) 4 F__law_rest) :=
  fn_P N__law_rest ps__law_rest 9 4 (cf__law_rest K mg) B__law_rest rfl rfl T.F__law_rest sc__law_rest rfl (fun i h1 => by
    match i, h1 with
    | 0, _ => exact rfl
    | 1, _ => exact rfl
    | 2, _ => exact rfl
    | 3, _ => exact rfl
    | i + 4, h => exact absurd h (by simp)) (fun cdv A outer s H E hr tk pw =>
  (sss_cons (ss_setS (sg_of (i := 4) (SE.le se_int .vs) sc__law_rest.nd rfl (Or.inl rfl)) rfl)
  (sss_cons (ss_for pw rfl (si_range2 (by rfl) T.m_range (sa_cons (SE.le se_int .vb) (sa_cons (SE.le (se_add se_int (se_mul (se_sub (se_len rfl T.m_len (sa_cons (se_vS 1 (pv 1) rfl) sa_nil)) se_int) (se_int1 T.m_int (sa_cons (SE.le (se_vS 2 (pv 2) rfl) .sb) sa_nil)))) .vb) sa_nil))) (sgt_name (i := 5) (is := [5]) List.mem_cons_self rfl sc__law_rest.nd rfl (Or.inl rfl)) (sss_cons (ss_setS (sg_of (i := 7) (se_sl rfl (se_vS 1 (pv 1) rfl) (so_some (se_vS 5 (pv 5) rfl)) so_none) sc__law_rest.nd rfl (Or.inl rfl)) rfl)
  (sss_cons (ss_if (st_and2 (st_gt (se_len rfl T.m_len (sa_cons (se_vS 7 (pv 7) rfl) sa_nil)) (se_len rfl T.m_len (sa_cons (se_vS 0 (pv 0) rfl) sa_nil))) (st_not (st_tru rfl (se_vS 3 (pv 3) rfl)))) (sss_one (ss_setS (sg_of (i := 7) (SE.le (se_lst (c := .V) sa_nil) .vs) sc__law_rest.nd rfl (Or.inl rfl)) rfl)) sss_nil)
  (sss_one (ss_if (st_eq rfl hr.units (se_sl rfl (se_vS 7 (pv 7) rfl) so_none (so_some (se_len rfl T.m_len (sa_cons (se_vS 0 (pv 0) rfl) sa_nil)))) (se_sl rfl (se_vS 0 (pv 0) rfl) so_none (so_some (se_len rfl T.m_len (sa_cons (se_vS 7 (pv 7) rfl) sa_nil))))) (sss_one (ss_setS (sg_of (i := 4) (SE.le (se_max2 rfl T.m_max (sa_cons (SE.le (se_vS 4 (pv 4) rfl) .sb) (sa_cons (SE.le (se_len rfl T.m_len (sa_cons (se_vS 7 (pv 7) rfl) sa_nil)) .vb) sa_nil))) .vs) sc__law_rest.nd rfl (Or.inl rfl)) rfl)) sss_nil)))))
  (sss_cons (ss_for pw rfl (si_range1 (by rfl) T.m_range (sa_cons (SE.le (se_len rfl T.m_len (sa_cons (se_vS 0 (pv 0) rfl) sa_nil)) .vb) sa_nil)) (sgt_name (i := 6) (is := [6]) List.mem_cons_self rfl sc__law_rest.nd rfl (Or.inl rfl)) (sss_cons (ss_setS (sg_of (i := 7) (se_sl rfl (se_vS 0 (pv 0) rfl) (so_some (se_vS 6 (pv 6) rfl)) (so_some (se_add (se_vS 6 (pv 6) rfl) (SE.le (se_len rfl T.m_len (sa_cons (se_vS 1 (pv 1) rfl) sa_nil)) .vs)))) sc__law_rest.nd rfl (Or.inl rfl)) rfl)
  (sss_cons (ss_setS (sg_of (i := 8) (SE.le (se_and (se_le (se_vS 6 (pv 6) rfl) (se_vS 4 (pv 4) rfl)) (se_one (se_eq rfl hr.units (se_vS 7 (pv 7) rfl) (se_sl rfl (se_vS 1 (pv 1) rfl) so_none (so_some (se_len rfl T.m_len (sa_cons (se_vS 7 (pv 7) rfl) sa_nil))))))) .vs) sc__law_rest.nd rfl (Or.inl rfl)) rfl)
  (sss_one (ss_if (st_and2 (st_tru rfl (se_vS 8 (pv 8) rfl)) (st_or2 (st_tru rfl (se_vS 3 (pv 3) rfl)) (st_eq rfl hr.units (se_len rfl T.m_len (sa_cons (se_vS 7 (pv 7) rfl) sa_nil)) (se_len rfl T.m_len (sa_cons (se_vS 1 (pv 1) rfl) sa_nil))))) (sss_one (ss_setS (sg_of (i := 4) (se_add (se_vS 6 (pv 6) rfl) (SE.le (se_len rfl T.m_len (sa_cons (se_vS 1 (pv 1) rfl) sa_nil)) .vs)) sc__law_rest.nd rfl (Or.inl rfl)) rfl)) sss_nil)))))
  (sss_one (ss_ret (SE.le (se_ge (se_vS 4 (pv 4) rfl) (se_len rfl T.m_len (sa_cons (se_vS 0 (pv 0) rfl) sa_nil))) .vl)))))))
theorem ok_need_both (T : Tp K mg) : FnOk P w K mg base (L2N.CX P w) 2 T.f_need_both T.d_need_both ps_need_both (spP K (cvK K) 2 F_need_both) :=
  fn_P N_need_both ps_need_both 2 2 (cf_need_both K mg) B_need_both rfl rfl T.F_need_both sc_need_both rfl (fun i h1 => by
    match i, h1 with
    | 0, _ => exact rfl
    | 1, _ => exact rfl
    | i + 2, h => exact absurd h (by simp)) (fun cdv A outer s H E hr tk pw =>
  (sss_cons (ss_expr (se_call rfl tk (ok_need_word T) hr (by rfl) T.g_need_word T.F_need_word.kp T.b_need_word (sa_cons (SE.le (se_vS 1 (pv 1) rfl) .sb) sa_nil) (fun _ _ _ => aLen_cons (fun _ _ _ => aLen_nil))))
  (sss_cons (ss_expr (se_call rfl tk (ok_need_signs T) hr (by rfl) T.g_need_signs T.F_need_signs.kp T.b_need_signs (sa_cons (SE.le (se_add (se_vS 0 (pv 0) rfl) (se_vS 1 (pv 1) rfl)) .sb) sa_nil) (fun _ _ _ => aLen_cons (fun _ _ _ => aLen_nil))))
  (sss_one (ss_expr (se_call rfl tk (ok_need_text T) hr (by rfl) T.g_need_text T.F_need_text.kp T.b_need_text (sa_cons (SE.le (se_vS 0 (pv 0) rfl) .sb) sa_nil) (fun _ _ _ => aLen_cons (fun _ _ _ => aLen_nil))))))))
theorem ok_covers_amid (T : Tp K mg) : FnOk P w K mg base (L2N.CX P w) 2 T.f_covers_amid T.d_covers_amid ps_covers_amid (spP K (cvK K) 4 F_covers_amid) :=
  fn_P N_covers_amid ps_covers_amid 6 4 (cf_covers_amid K mg) B_covers_amid rfl rfl T.F_covers_amid sc_covers_amid rfl (fun i h1 => by
    match i, h1 with
    | 0, _ => exact rfl
    | 1, _ => exact rfl
    | 2, _ => exact rfl
    | 3, _ => exact rfl
    | i + 4, h => exact absurd h (by simp)) (fun cdv A outer s H E hr tk pw =>
  (sss_cons (ss_setS (sg_of (i := 4) (se_vS 2 (pv 2) rfl) sc_covers_amid.nd rfl (Or.inl rfl)) rfl)
  (sss_cons (ss_for pw rfl (si_list rfl (SE.le (se_call rfl tk (ok_laid_at T) hr (by rfl) T.g_laid_at T.F_laid_at.kp T.b_laid_at (sa_cons (SE.le (se_vS 0 (pv 0) rfl) .sb) (sa_cons (SE.le (se_vS 1 (pv 1) rfl) .sb) sa_nil)) (fun _ _ _ => aLen_cons (fun _ _ _ => aLen_cons (fun _ _ _ => aLen_nil)))) .vs)) (sgt_name (i := 5) (is := [5]) List.mem_cons_self rfl sc_covers_amid.nd rfl (Or.inl rfl)) (sss_one (ss_if (st_le (se_vS 5 (pv 5) rfl) (se_vS 4 (pv 4) rfl)) (sss_one (ss_setS (sg_of (i := 4) (SE.le (se_max2 rfl T.m_max (sa_cons (SE.le (se_vS 4 (pv 4) rfl) .sb) (sa_cons (SE.le (se_add (se_vS 5 (pv 5) rfl) (SE.le (se_len rfl T.m_len (sa_cons (se_vS 1 (pv 1) rfl) sa_nil)) .vs)) .sb) sa_nil))) .vs) sc_covers_amid.nd rfl (Or.inl rfl)) rfl)) sss_nil)))
  (sss_one (ss_ret (SE.le (se_ge (se_vS 4 (pv 4) rfl) (se_vS 3 (pv 3) rfl)) .vl))))))
theorem ok__law_letters (T : Tp K mg) : FnOk P w K mg base (L2N.CX P w) 2 T.f__law_letters T.d__law_letters ps__law_letters (spW K (cvK K) 1 F__law_letters_v3) :=
  fn_W N__law_letters ps__law_letters 6 1 (cf__law_letters K mg) B__law_letters_v3 rfl rfl T.F__law_letters sc__law_letters rfl rfl (fun i h1 h2 => by
    match i, h1, h2 with
    | i + 1, _, h => exact absurd h (by simp)) (fun cdv A outer s H E hr tk pw =>
  (sss_cons (ss_setS (sg_of (i := 1) (SE.le se_str .vs) sc__law_letters.nd rfl (Or.inr rfl)) rfl)
  (sss_cons (ss_setS (sg_of (i := 2) (SE.le (se_callW rfl tk (ok__law_take T) hr (by rfl) T.g__law_take T.F__law_take.kp T.b__law_take rfl (pv 0) (sa_cons (SE.le se_int .vb) sa_nil) (aLen1 (fun _ _ _ => aLen_cons (fun _ _ _ => aLen_nil)))) .vs) sc__law_letters.nd rfl (Or.inr rfl)) rfl)
  (sss_cons (ss_setS (sg_of (i := 3) (SE.le (se_ix rfl (se_lst (sa_cons se_int (sa_cons se_int (sa_cons se_int (sa_cons se_int (sa_cons se_int (sa_cons se_int (sa_cons se_int (sa_cons se_int (sa_cons se_int (sa_cons se_int (sa_cons se_int (sa_cons se_int sa_nil))))))))))))) (se_callW rfl tk (ok__law_take T) hr (by rfl) T.g__law_take T.F__law_take.kp T.b__law_take rfl (pv 0) (sa_cons (SE.le se_int .vb) sa_nil) (aLen1 (fun _ _ _ => aLen_cons (fun _ _ _ => aLen_nil)))) (fun _ _ => rfl)) .vs) sc__law_letters.nd rfl (Or.inr rfl)) rfl)
  (sss_cons (ss_setS (sg_of (i := 4) (SE.le (se_ix rfl (se_lst (sa_cons se_int (sa_cons se_int (sa_cons se_int (sa_cons se_int (sa_cons se_int (sa_cons se_int sa_nil))))))) (se_callW rfl tk (ok__law_take T) hr (by rfl) T.g__law_take T.F__law_take.kp T.b__law_take rfl (pv 0) (sa_cons (SE.le se_int .vb) sa_nil) (aLen1 (fun _ _ _ => aLen_cons (fun _ _ _ => aLen_nil)))) (fun _ _ => rfl)) .vs) sc__law_letters.nd rfl (Or.inl rfl)) rfl)
  (sss_one (ss_ret (SE.le (SE.flat (se_lc (c := .S) (own := [(Str.ofString "k", 5)]) rfl (own1 rfl) rfl sc__law_letters.nd (SI.w (si_range1 (by rfl) T.m_range (sa_cons (SE.le (se_vS 4 (pv 4) rfl) .sb) sa_nil))) (blkOk_by (own := [(Str.ofString "k", 5)]) (N := N__law_letters) (sc := (defScope s__law_letters)) (by decide +kernel)) (fun _ _ _ _ _ => (sgt_name (i := 5) (is := [5]) List.mem_cons_self rfl sc__law_letters.nd rfl (Or.inl rfl))) (fun _ _ _ _ _ => sts_nil) (fun _ _ _ _ _ => (se_ix rfl (se_vS 1 (pv 1) rfl) (SE.le (se_mod (se_add (se_vS 2 (pv 2) rfl) (se_mul (se_vS 3 (pv 3) rfl) (se_vS 5 (pv 5) rfl))) se_int) .vs) (fun _ _ => rfl))))) .vl))))))))
theorem ok__law_signs (T : Tp K mg) : FnOk P w K mg base (L2N.CX P w) 2 T.f__law_signs T.d__law_signs ps__law_signs (spW K (cvK K) 3 F__law_signs_v3) :=
  fn_W N__law_signs ps__law_signs 4 3 (cf__law_signs K mg) B__law_signs_v3 rfl rfl T.F__law_signs sc__law_signs rfl rfl (fun i h1 h2 => by
    match i, h1, h2 with
    | 1, _, _ => exact rfl
    | 2, _, _ => exact rfl
    | i + 3, _, h => exact absurd h (by simp)) (fun cdv A outer s H E hr tk pw =>
  (sss_one (ss_ret (SE.le (SE.flat (se_lc (c := .S) (own := [(Str.ofString "k", 3)]) rfl (own1 rfl) rfl sc__law_signs.nd (SI.w (si_range1 (by rfl) T.m_range (sa_cons (SE.le (se_vS 2 (pv 2) rfl) .sb) sa_nil))) (blkOk_by (own := [(Str.ofString "k", 3)]) (N := N__law_signs) (sc := (defScope s__law_signs)) (by decide +kernel)) (fun _ _ _ _ _ => (sgt_name (i := 3) (is := [3]) List.mem_cons_self rfl sc__law_signs.nd rfl (Or.inl rfl))) (fun _ _ _ _ _ => sts_nil) (fun _ _ _ _ _ => (se_ix rfl (se_vS 1 (pv 1) rfl) (SE.le (se_callW rfl takes0N (ok__law_take T) hr (by rfl) T.g__law_take T.F__law_take.kp T.b__law_take rfl (pv 0) (sa_cons (SE.le (se_len rfl T.m_len (sa_cons (se_vS 1 (pv 1) rfl) sa_nil)) .vb) sa_nil) (aLen1 (fun _ _ _ => aLen_cons (fun _ _ _ => aLen_nil)))) .vs) (fun _ _ => rfl))))) .vl))))
theorem ok__law_by_trial (T : Tp K mg) : FnOk P w K mg base (L2N.CX P w) 2 T.f__law_by_trial T.d__law_by_trial ps__law_by_trial (spP K (cvK K) 4 F__law_by_trial) :=
  fn_P N__law_by_trial ps__law_by_trial 7 4 (cf__law_by_trial K mg) B__law_by_trial rfl rfl T.F__law_by_trial sc__law_by_trial rfl (fun i h1 => by
    match i, h1 with
    | 0, _ => exact rfl
    | 1, _ => exact rfl
    | 2, _ => exact rfl
    | 3, _ => exact rfl
    | i + 4, h => exact absurd h (by simp)) (fun cdv A outer s H E hr tk pw =>
  (sss_cons (ss_for pw rfl (si_range1 (by rfl) T.m_range (sa_cons (SE.le (se_add se_int (se_mul (se_sub (se_len rfl T.m_len (sa_cons (se_vS 1 (pv 1) rfl) sa_nil)) se_int) (se_int1 T.m_int (sa_cons (SE.le (se_vS 2 (pv 2) rfl) .sb) sa_nil)))) .vb) sa_nil)) (sgt_name (i := 4) (is := [4]) List.mem_cons_self rfl sc__law_by_trial.nd rfl (Or.inl rfl)) (sss_one (ss_for pw rfl (si_range1 (by rfl) T.m_range (sa_cons (SE.le (se_add se_int (se_mul (se_sub (se_len rfl T.m_len (sa_cons (se_vS 1 (pv 1) rfl) sa_nil)) se_int) (se_int1 T.m_int (sa_cons (SE.le (se_vS 3 (pv 3) rfl) .sb) sa_nil)))) .vb) sa_nil)) (sgt_name (i := 5) (is := [5]) List.mem_cons_self rfl sc__law_by_trial.nd rfl (Or.inl rfl)) (sss_cons (ss_setS (sg_of (i := 6) (se_sl rfl (se_vS 1 (pv 1) rfl) (so_some (se_sub (se_len rfl T.m_len (sa_cons (se_vS 1 (pv 1) rfl) sa_nil)) (se_vS 5 (pv 5) rfl))) so_none) sc__law_by_trial.nd rfl (Or.inl rfl)) rfl)
  (sss_one (ss_if (st_val (se_call rfl tk (ok__law_is_covered T) hr (by rfl) T.g__law_is_covered T.F__law_is_covered.kp T.b__law_is_covered (sa_cons (SE.le (se_add (se_add (se_sl rfl (se_vS 1 (pv 1) rfl) so_none (so_some (se_vS 4 (pv 4) rfl))) (se_vS 0 (pv 0) rfl)) (se_vS 6 (pv 6) rfl)) .sb) (sa_cons (SE.le (se_vS 1 (pv 1) rfl) .sb) sa_nil)) (fun _ _ _ => aLen_cons (fun _ _ _ => aLen_cons (fun _ _ _ => aLen_nil))))) (sss_one (ss_ret (SE.le se_bl .vl))) sss_nil))))))
  (sss_one (ss_ret (SE.le se_bl .vl)))))
theorem ok__law_due (T : Tp K mg) : FnOk P w K mg base (L2N.CX P w) 2 T.f__law_due T.d__law_due ps__law_due (spP K (cvK K) 1 F__law_due_v20) :=
  fn_P N__law_due ps__law_due 4 1 (cf__law_due K mg) B__law_due_v20 rfl rfl T.F__law_due sc__law_due rfl (fun i h1 => by
    match i, h1 with
    | 0, _ => exact rfl
    | i + 1, h => exact absurd h (by simp)) (fun cdv A outer s H E hr tk pw =>
  (sss_cons (ss_setN (sg_of (i := 1) (SE.le (se_lrg2 rfl T.m_list T.m_range se_int (se_add (se_len rfl T.m_len (sa_cons (se_vS 0 (pv 0) rfl) sa_nil)) se_int)) .vn) sc__law_due.nd rfl (Or.inl rfl)) rfl)
  (sss_cons (ss_setN (SG.le (SG.flat (sg_lc (i := 2) (c := .S) (own := [(Str.ofString "k", 3)]) rfl (own1 rfl) rfl sc__law_due.nd rfl rfl (sw_true rfl rfl rfl (by decide +kernel)) (SI.w (si_list rfl (SE.le (se_vN 1 (pv 1) rfl) .ns))) (blkOk_by (own := [(Str.ofString "k", 3)]) (N := N__law_due) (sc := (defScope s__law_due)) (by decide +kernel)) (fun _ _ _ _ _ => (sgt_name (i := 3) (is := [3]) List.mem_cons_self rfl sc__law_due.nd rfl (Or.inl rfl))) (fun _ _ _ _ _ => (sts_one (st_val (se_call rfl takes0N (ok__law_rest T) hr (by rfl) T.g__law_rest T.F__law_rest.kp T.b__law_rest (sa_cons (SE.le (se_vS 0 (pv 0) rfl) .sb) (sa_cons (SE.le (se_sl rfl (se_vS 0 (pv 0) rfl) so_none (so_some (se_vS 3 (pv 3) rfl))) .sb) (sa_cons (SE.le se_bl .vb) (sa_cons (SE.le se_bl .vb) sa_nil)))) (fun _ _ _ => aLen_cons (fun _ _ _ => aLen_cons (fun _ _ _ => aLen_cons (fun _ _ _ => aLen_cons (fun _ _ _ => aLen_nil))))))))) (fun _ _ _ _ _ => (se_vS 3 (pv 3) rfl)))) .vn) rfl)
  (sss_one (ss_ret (SE.le (se_lst (sa_cons (se_vN 2 (pv 2) rfl) (sa_cons (SE.le (SE.flat (se_lc (c := .S) (own := [(Str.ofString "k", 3)]) rfl (own1 rfl) rfl sc__law_due.nd (SI.w (si_list rfl (SE.le (se_vN 1 (pv 1) rfl) .ns))) (blkOk_by (own := [(Str.ofString "k", 3)]) (N := N__law_due) (sc := (defScope s__law_due)) (by decide +kernel)) (fun _ _ _ _ _ => (sgt_name (i := 3) (is := [3]) List.mem_cons_self rfl sc__law_due.nd rfl (Or.inl rfl))) (fun _ _ _ _ _ => (sts_one (st_val (se_call rfl takes0N (ok__law_rest T) hr (by rfl) T.g__law_rest T.F__law_rest.kp T.b__law_rest (sa_cons (SE.le (se_vS 0 (pv 0) rfl) .sb) (sa_cons (SE.le (se_sl rfl (se_vS 0 (pv 0) rfl) (so_some (se_sub (se_len rfl T.m_len (sa_cons (se_vS 0 (pv 0) rfl) sa_nil)) (se_vS 3 (pv 3) rfl))) so_none) .sb) (sa_cons (SE.le se_bl .vb) (sa_cons (SE.le se_bl .vb) sa_nil)))) (fun _ _ _ => aLen_cons (fun _ _ _ => aLen_cons (fun _ _ _ => aLen_cons (fun _ _ _ => aLen_cons (fun _ _ _ => aLen_nil))))))))) (fun _ _ _ _ _ => (se_vS 3 (pv 3) rfl)))) .vn) sa_nil))) .nl))))))
theorem ok_rest_behind (T : Tp K mg) : FnOk P w K mg base (L2N.CX P w) 3 T.f_rest_behind T.d_rest_behind ps_rest_behind (spP K (cvK K) 2 F_rest_behind) :=
  fn_P N_rest_behind ps_rest_behind 2 2 (cf_rest_behind K mg) B_rest_behind rfl rfl T.F_rest_behind sc_rest_behind rfl (fun i h1 => by
    match i, h1 with
    | 0, _ => exact rfl
    | 1, _ => exact rfl
    | i + 2, h => exact absurd h (by simp)) (fun cdv A outer s H E hr tk pw =>
  (sss_cons (ss_expr (se_call rfl tk (ok_need_both T) hr (by rfl) T.g_need_both T.F_need_both.kp T.b_need_both (sa_cons (SE.le (se_vS 0 (pv 0) rfl) .sb) (sa_cons (SE.le (se_vS 1 (pv 1) rfl) .sb) sa_nil)) (fun _ _ _ => aLen_cons (fun _ _ _ => aLen_cons (fun _ _ _ => aLen_nil)))))
  (sss_one (ss_ret (SE.le (se_call rfl tk (ok_covers_amid T) hr (by rfl) T.g_covers_amid T.F_covers_amid.kp T.b_covers_amid (sa_cons (SE.le (se_vS 0 (pv 0) rfl) .sb) (sa_cons (SE.le (se_vS 1 (pv 1) rfl) .sb) (sa_cons (SE.le se_int .vb) (sa_cons (SE.le (se_sub (se_len rfl T.m_len (sa_cons (se_vS 0 (pv 0) rfl) sa_nil)) (se_call rfl tk (ok_hung_behind T) (hr.mono (by decide : 1 ≤ 2)) (by rfl) T.g_hung_behind T.F_hung_behind.kp T.b_hung_behind (sa_cons (SE.le (se_vS 0 (pv 0) rfl) .sb) (sa_cons (SE.le (se_vS 1 (pv 1) rfl) .sb) sa_nil)) (fun _ _ _ => aLen_cons (fun _ _ _ => aLen_cons (fun _ _ _ => aLen_nil))))) .vb) sa_nil)))) (fun _ _ _ => aLen_cons (fun _ _ _ => aLen_cons (fun _ _ _ => aLen_cons (fun _ _ _ => aLen_cons (fun _ _ _ => aLen_nil)))))) .vl)))))
theorem ok_rest_ahead (T : Tp K mg) : FnOk P w K mg base (L2N.CX P w) 3 T.f_rest_ahead T.d_rest_ahead ps_rest_ahead (spP K (cvK K) 2 F_rest_ahead) :=
  fn_P N_rest_ahead ps_rest_ahead 2 2 (cf_rest_ahead K mg) B_rest_ahead rfl rfl T.F_rest_ahead sc_rest_ahead rfl (fun i h1 => by
    match i, h1 with
    | 0, _ => exact rfl
    | 1, _ => exact rfl
    | i + 2, h => exact absurd h (by simp)) (fun cdv A outer s H E hr tk pw =>
  (sss_cons (ss_expr (se_call rfl tk (ok_need_both T) hr (by rfl) T.g_need_both T.F_need_both.kp T.b_need_both (sa_cons (SE.le (se_vS 0 (pv 0) rfl) .sb) (sa_cons (SE.le (se_vS 1 (pv 1) rfl) .sb) sa_nil)) (fun _ _ _ => aLen_cons (fun _ _ _ => aLen_cons (fun _ _ _ => aLen_nil)))))
  (sss_one (ss_ret (SE.le (se_call rfl tk (ok_covers_amid T) hr (by rfl) T.g_covers_amid T.F_covers_amid.kp T.b_covers_amid (sa_cons (SE.le (se_vS 0 (pv 0) rfl) .sb) (sa_cons (SE.le (se_vS 1 (pv 1) rfl) .sb) (sa_cons (SE.le (se_call rfl tk (ok_hung_ahead T) (hr.mono (by decide : 1 ≤ 2)) (by rfl) T.g_hung_ahead T.F_hung_ahead.kp T.b_hung_ahead (sa_cons (SE.le (se_vS 0 (pv 0) rfl) .sb) (sa_cons (SE.le (se_vS 1 (pv 1) rfl) .sb) sa_nil)) (fun _ _ _ => aLen_cons (fun _ _ _ => aLen_cons (fun _ _ _ => aLen_nil)))) .vb) (sa_cons (SE.le (se_len rfl T.m_len (sa_cons (se_vS 0 (pv 0) rfl) sa_nil)) .vb) sa_nil)))) (fun _ _ _ => aLen_cons (fun _ _ _ => aLen_cons (fun _ _ _ => aLen_cons (fun _ _ _ => aLen_cons (fun _ _ _ => aLen_nil)))))) .vl)))))
theorem ok__law_word (T : Tp K mg) : FnOk P w K mg base (L2N.CX P w) 3 T.f__law_word T.d__law_word ps__law_word (spW K (cvK K) 3 F__law_word_v4) :=
  fn_W N__law_word ps__law_word 5 3 (cf__law_word K mg) B__law_word_v4 rfl rfl T.F__law_word sc__law_word rfl rfl (fun i h1 h2 => by
    match i, h1, h2 with
    | 1, _, _ => exact rfl
    | 2, _, _ => exact rfl
    | i + 3, _, h => exact absurd h (by simp)) (fun cdv A outer s H E hr tk pw =>
  (sss_cons (ss_setS (sg_of (i := 3) (SE.le (se_callW rfl tk (ok__law_take T) (hr.mono (by decide : 1 ≤ 2)) (by rfl) T.g__law_take T.F__law_take.kp T.b__law_take rfl (pv 0) (sa_cons (SE.le se_int .vb) sa_nil) (aLen1 (fun _ _ _ => aLen_cons (fun _ _ _ => aLen_nil)))) .vs) sc__law_word.nd rfl (Or.inl rfl)) rfl)
  (sss_cons (ss_setN (sg_of (i := 4) (SE.le (se_callW rfl tk (ok__law_signs T) hr (by rfl) T.g__law_signs T.F__law_signs.kp T.b__law_signs rfl (pv 0) (sa_cons (SE.le (se_vS 1 (pv 1) rfl) .sb) (sa_cons (SE.le (se_add se_int (se_callW rfl tk (ok__law_take T) (hr.mono (by decide : 1 ≤ 2)) (by rfl) T.g__law_take T.F__law_take.kp T.b__law_take rfl (pv 0) (sa_cons (SE.le (se_vS 2 (pv 2) rfl) .sb) sa_nil) (aLen1 (fun _ _ _ => aLen_cons (fun _ _ _ => aLen_nil))))) .vb) sa_nil)) (aLen1 (fun _ _ _ => aLen_cons (fun _ _ _ => aLen_cons (fun _ _ _ => aLen_nil))))) .vn) sc__law_word.nd rfl (Or.inl rfl)) rfl)
  (sss_cons (ss_if (st_eq rfl hr.units (se_vS 3 (pv 3) rfl) se_int) (sss_one (ss_setN (sg_of (i := 4) (se_add (se_add (se_vN 4 (pv 4) rfl) (SE.le (se_callW rfl tk (ok__law_signs T) hr (by rfl) T.g__law_signs T.F__law_signs.kp T.b__law_signs rfl (pv 0) (sa_cons (SE.le (se_vS 1 (pv 1) rfl) .sb) (sa_cons (SE.le (se_callW rfl tk (ok__law_take T) (hr.mono (by decide : 1 ≤ 2)) (by rfl) T.g__law_take T.F__law_take.kp T.b__law_take rfl (pv 0) (sa_cons (SE.le se_int .vb) sa_nil) (aLen1 (fun _ _ _ => aLen_cons (fun _ _ _ => aLen_nil)))) .vb) sa_nil)) (aLen1 (fun _ _ _ => aLen_cons (fun _ _ _ => aLen_cons (fun _ _ _ => aLen_nil))))) .vn)) (se_vN 4 (pv 4) rfl)) sc__law_word.nd rfl (Or.inl rfl)) rfl)) sss_nil)
  (sss_cons (ss_if (st_eq rfl hr.units (se_vS 3 (pv 3) rfl) se_int) (sss_one (ss_setN (sg_of (i := 4) (se_add (se_mul (se_vN 4 (pv 4) rfl) (SE.le (se_add se_int (se_callW rfl tk (ok__law_take T) (hr.mono (by decide : 1 ≤ 2)) (by rfl) T.g__law_take T.F__law_take.kp T.b__law_take rfl (pv 0) (sa_cons (SE.le se_int .vb) sa_nil) (aLen1 (fun _ _ _ => aLen_cons (fun _ _ _ => aLen_nil))))) .vn)) (se_sl rfl (se_vN 4 (pv 4) rfl) so_none (so_some (se_callW rfl tk (ok__law_take T) (hr.mono (by decide : 1 ≤ 2)) (by rfl) T.g__law_take T.F__law_take.kp T.b__law_take rfl (pv 0) (sa_cons (SE.le (se_add (se_len rfl T.m_len (sa_cons (se_vN 4 (pv 4) rfl) sa_nil)) se_int) .vb) sa_nil) (aLen1 (fun _ _ _ => aLen_cons (fun _ _ _ => aLen_nil))))))) sc__law_word.nd rfl (Or.inl rfl)) rfl)) sss_nil)
  (sss_one (ss_ret (SE.le (se_vN 4 (pv 4) rfl) .nl))))))))
theorem ok__law_overlaid (T : Tp K mg) : FnOk P w K mg base (L2N.CX P w) 3 T.f__law_overlaid T.d__law_overlaid ps__law_overlaid (spW K (cvK K) 4 F__law_overlaid_v2) :=
  fn_W N__law_overlaid ps__law_overlaid 9 4 (cf__law_overlaid K mg) B__law_overlaid_v2 rfl rfl T.F__law_overlaid sc__law_overlaid rfl rfl (fun i h1 h2 => by
    match i, h1, h2 with
    | 1, _, _ => exact rfl
    | 2, _, _ => exact rfl
    | 3, _, _ => exact rfl
    | i + 4, _, h => exact absurd h (by simp)) (fun cdv A outer s H E hr tk pw =>
  (sss_cons (ss_setN (sg_of (i := 4) (SE.le (SE.flat (se_list1 rfl T.m_list (sa_cons (se_vS 2 (pv 2) rfl) sa_nil))) .vn) sc__law_overlaid.nd rfl (Or.inr rfl)) rfl)
  (sss_cons (ss_for pw rfl (si_range1 (by rfl) T.m_range (sa_cons (SE.le (se_vS 3 (pv 3) rfl) .sb) sa_nil)) (sgt_name (i := 5) (is := [5]) List.mem_cons_self rfl sc__law_overlaid.nd rfl (Or.inl rfl)) (sss_cons (ss_setS (sg_lc (i := 6) (c := .S) (own := [(Str.ofString "j", 8)]) rfl (own1 rfl) rfl sc__law_overlaid.nd rfl rfl (sw_true rfl rfl rfl (by decide +kernel)) (SI.w (si_range1 (by rfl) T.m_range (sa_cons (SE.le (se_len rfl T.m_len (sa_cons (se_vS 2 (pv 2) rfl) sa_nil)) .vb) sa_nil))) (blkOk_by (own := [(Str.ofString "j", 8)]) (N := N__law_overlaid) (sc := (defScope s__law_overlaid)) (by decide +kernel)) (fun _ _ _ _ _ => (sgt_name (i := 8) (is := [8]) List.mem_cons_self rfl sc__law_overlaid.nd rfl (Or.inl rfl))) (fun _ _ _ _ _ => (sts_one (st_or2 (st_eq rfl hr.units (se_vS 8 (pv 8) rfl) se_int) (st_eq rfl hr.units (se_sl rfl (se_vN 4 (pv 4) rfl) (so_some (se_sub (se_len rfl T.m_len (sa_cons (se_vN 4 (pv 4) rfl) sa_nil)) (se_vS 8 (pv 8) rfl))) so_none) (se_sl rfl (se_vS 2 (pv 2) rfl) so_none (so_some (se_vS 8 (pv 8) rfl))))))) (fun _ _ _ _ _ => (se_vS 8 (pv 8) rfl))) rfl)
  (sss_cons (ss_setS (sg_of (i := 7) (se_ix rfl (se_vS 6 (pv 6) rfl) (SE.le (se_callW rfl tk (ok__law_take T) (hr.mono (by decide : 1 ≤ 2)) (by rfl) T.g__law_take T.F__law_take.kp T.b__law_take rfl (pv 0) (sa_cons (SE.le (se_len rfl T.m_len (sa_cons (se_vS 6 (pv 6) rfl) sa_nil)) .vb) sa_nil) (aLen1 (fun _ _ _ => aLen_cons (fun _ _ _ => aLen_nil)))) .vs) (fun _ _ => rfl)) sc__law_overlaid.nd rfl (Or.inl rfl)) rfl)
  (sss_cons (ss_if (st_eq rfl hr.units (se_callW rfl tk (ok__law_take T) (hr.mono (by decide : 1 ≤ 2)) (by rfl) T.g__law_take T.F__law_take.kp T.b__law_take rfl (pv 0) (sa_cons (SE.le se_int .vb) sa_nil) (aLen1 (fun _ _ _ => aLen_cons (fun _ _ _ => aLen_nil)))) se_int) (sss_cons (ss_setN (sg_of (i := 4) (se_add (se_vN 4 (pv 4) rfl) (SE.le (se_callW rfl tk (ok__law_signs T) hr (by rfl) T.g__law_signs T.F__law_signs.kp T.b__law_signs rfl (pv 0) (sa_cons (SE.le (se_vS 1 (pv 1) rfl) .sb) (sa_cons (SE.le se_int .vb) sa_nil)) (aLen1 (fun _ _ _ => aLen_cons (fun _ _ _ => aLen_cons (fun _ _ _ => aLen_nil))))) .vn)) sc__law_overlaid.nd rfl (Or.inr rfl)) rfl)
  (sss_one (ss_setS (sg_of (i := 7) (SE.le se_int .vs) sc__law_overlaid.nd rfl (Or.inl rfl)) rfl))) sss_nil)
  (sss_one (ss_setN (sg_of (i := 4) (SE.le (SE.flat (se_add (SE.le (se_vN 4 (pv 4) rfl) .ns) (se_sl rfl (se_vS 2 (pv 2) rfl) (so_some (se_vS 7 (pv 7) rfl)) so_none))) .vn) sc__law_overlaid.nd rfl (Or.inr rfl)) rfl))))))
  (sss_one (ss_ret (SE.le (se_vN 4 (pv 4) rfl) .nl))))))
theorem ok__law_bent (T : Tp K mg) : FnOk P w K mg base (L2N.CX P w) 3 T.f__law_bent T.d__law_bent ps__law_bent (spW K (cvK K) 3 F__law_bent) :=
  fn_W N__law_bent ps__law_bent 5 3 (cf__law_bent K mg) B__law_bent rfl rfl T.F__law_bent sc__law_bent rfl rfl (fun i h1 h2 => by
    match i, h1, h2 with
    | 1, _, _ => exact rfl
    | 2, _, _ => exact rfl
    | i + 3, _, h => exact absurd h (by simp)) (fun cdv A outer s H E hr tk pw =>
  (sss_cons (ss_setS (sg_of (i := 3) (SE.le (se_callW rfl tk (ok__law_take T) (hr.mono (by decide : 1 ≤ 2)) (by rfl) T.g__law_take T.F__law_take.kp T.b__law_take rfl (pv 0) (sa_cons (SE.le (se_add (se_len rfl T.m_len (sa_cons (se_vS 2 (pv 2) rfl) sa_nil)) se_int) .vb) sa_nil) (aLen1 (fun _ _ _ => aLen_cons (fun _ _ _ => aLen_nil)))) .vs) sc__law_bent.nd rfl (Or.inl rfl)) rfl)
  (sss_cons (ss_setS (sg_of (i := 4) (SE.le (se_callW rfl tk (ok__law_take T) (hr.mono (by decide : 1 ≤ 2)) (by rfl) T.g__law_take T.F__law_take.kp T.b__law_take rfl (pv 0) (sa_cons (SE.le se_int .vb) sa_nil) (aLen1 (fun _ _ _ => aLen_cons (fun _ _ _ => aLen_nil)))) .vs) sc__law_bent.nd rfl (Or.inl rfl)) rfl)
  (sss_cons (ss_if (st_eq rfl hr.units (se_vS 4 (pv 4) rfl) se_int) (sss_one (ss_ret (SE.le (SE.flat (se_add (se_sl rfl (se_vS 2 (pv 2) rfl) so_none (so_some (se_vS 3 (pv 3) rfl))) (se_sl rfl (se_vS 2 (pv 2) rfl) (so_some (se_add (se_vS 3 (pv 3) rfl) (SE.le se_int .vs))) so_none))) .vl))) sss_nil)
  (sss_one (ss_ret (SE.le (SE.flat (se_add (se_add (se_sl rfl (se_vS 2 (pv 2) rfl) so_none (so_some (se_vS 3 (pv 3) rfl))) (SE.le (se_callW rfl tk (ok__law_signs T) hr (by rfl) T.g__law_signs T.F__law_signs.kp T.b__law_signs rfl (pv 0) (sa_cons (SE.le (se_vS 1 (pv 1) rfl) .sb) (sa_cons (SE.le se_int .vb) sa_nil)) (aLen1 (fun _ _ _ => aLen_cons (fun _ _ _ => aLen_cons (fun _ _ _ => aLen_nil))))) .vs)) (se_sl rfl (se_vS 2 (pv 2) rfl) (so_some (se_sub (se_add (se_vS 3 (pv 3) rfl) (SE.le se_int .vs)) (se_vS 4 (pv 4) rfl))) so_none))) .vl)))))))
theorem ok_beginnings_with_rest (T : Tp K mg) : FnOk P w K mg base (L2N.CX P w) 4 T.f_beginnings_with_rest T.d_beginnings_with_rest ps_beginnings_with_rest (spP K (cvK K) 1 F_beginnings_with_rest) :=
  fn_P N_beginnings_with_rest ps_beginnings_with_rest 2 1 (cf_beginnings_with_rest K mg) B_beginnings_with_rest rfl rfl T.F_beginnings_with_rest sc_beginnings_with_rest rfl (fun i h1 => by
    match i, h1 with
    | 0, _ => exact rfl
    | i + 1, h => exact absurd h (by simp)) (fun cdv A outer s H E hr tk pw =>
  (sss_cons (ss_expr (se_call rfl tk (ok_need_signs T) (hr.mono (by decide : 1 ≤ 3)) (by rfl) T.g_need_signs T.F_need_signs.kp T.b_need_signs (sa_cons (SE.le (se_vS 0 (pv 0) rfl) .sb) sa_nil) (fun _ _ _ => aLen_cons (fun _ _ _ => aLen_nil))))
  (sss_cons (ss_expr (se_call rfl tk (ok_need_text T) (hr.mono (by decide : 1 ≤ 3)) (by rfl) T.g_need_text T.F_need_text.kp T.b_need_text (sa_cons (SE.le (se_vS 0 (pv 0) rfl) .sb) sa_nil) (fun _ _ _ => aLen_cons (fun _ _ _ => aLen_nil))))
  (sss_one (ss_ret (SE.le (SE.flat (se_lc (c := .S) (own := [(Str.ofString "length", 1)]) rfl (own1 rfl) rfl sc_beginnings_with_rest.nd (SI.w (si_range2 (by rfl) T.m_range (sa_cons (SE.le se_int .vb) (sa_cons (SE.le (se_add (se_len rfl T.m_len (sa_cons (se_vS 0 (pv 0) rfl) sa_nil)) se_int) .vb) sa_nil)))) (blkOk_by (own := [(Str.ofString "length", 1)]) (N := N_beginnings_with_rest) (sc := (defScope s_beginnings_with_rest)) (by decide +kernel)) (fun _ _ _ _ _ => (sgt_name (i := 1) (is := [1]) List.mem_cons_self rfl sc_beginnings_with_rest.nd rfl (Or.inl rfl))) (fun _ _ _ _ _ => (sts_one (st_val (se_call rfl takes0N (ok_rest_behind T) hr (by rfl) T.g_rest_behind T.F_rest_behind.kp T.b_rest_behind (sa_cons (SE.le (se_vS 0 (pv 0) rfl) .sb) (sa_cons (SE.le (se_sl rfl (se_vS 0 (pv 0) rfl) so_none (so_some (se_vS 1 (pv 1) rfl))) .sb) sa_nil)) (fun _ _ _ => aLen_cons (fun _ _ _ => aLen_cons (fun _ _ _ => aLen_nil))))))) (fun _ _ _ _ _ => (se_vS 1 (pv 1) rfl)))) .vl))))))
theorem ok_ends_with_rest (T : Tp K mg) : FnOk P w K mg base (L2N.CX P w) 4 T.f_ends_with_rest T.d_ends_with_rest ps_ends_with_rest (spP K (cvK K) 1 F_ends_with_rest) :=
  fn_P N_ends_with_rest ps_ends_with_rest 2 1 (cf_ends_with_rest K mg) B_ends_with_rest rfl rfl T.F_ends_with_rest sc_ends_with_rest rfl (fun i h1 => by
    match i, h1 with
    | 0, _ => exact rfl
    | i + 1, h => exact absurd h (by simp)) (fun cdv A outer s H E hr tk pw =>
  (sss_cons (ss_expr (se_call rfl tk (ok_need_signs T) (hr.mono (by decide : 1 ≤ 3)) (by rfl) T.g_need_signs T.F_need_signs.kp T.b_need_signs (sa_cons (SE.le (se_vS 0 (pv 0) rfl) .sb) sa_nil) (fun _ _ _ => aLen_cons (fun _ _ _ => aLen_nil))))
  (sss_cons (ss_expr (se_call rfl tk (ok_need_text T) (hr.mono (by decide : 1 ≤ 3)) (by rfl) T.g_need_text T.F_need_text.kp T.b_need_text (sa_cons (SE.le (se_vS 0 (pv 0) rfl) .sb) sa_nil) (fun _ _ _ => aLen_cons (fun _ _ _ => aLen_nil))))
  (sss_one (ss_ret (SE.le (SE.flat (se_lc (c := .S) (own := [(Str.ofString "length", 1)]) rfl (own1 rfl) rfl sc_ends_with_rest.nd (SI.w (si_range2 (by rfl) T.m_range (sa_cons (SE.le se_int .vb) (sa_cons (SE.le (se_add (se_len rfl T.m_len (sa_cons (se_vS 0 (pv 0) rfl) sa_nil)) se_int) .vb) sa_nil)))) (blkOk_by (own := [(Str.ofString "length", 1)]) (N := N_ends_with_rest) (sc := (defScope s_ends_with_rest)) (by decide +kernel)) (fun _ _ _ _ _ => (sgt_name (i := 1) (is := [1]) List.mem_cons_self rfl sc_ends_with_rest.nd rfl (Or.inl rfl))) (fun _ _ _ _ _ => (sts_one (st_val (se_call rfl takes0N (ok_rest_ahead T) hr (by rfl) T.g_rest_ahead T.F_rest_ahead.kp T.b_rest_ahead (sa_cons (SE.le (se_vS 0 (pv 0) rfl) .sb) (sa_cons (SE.le (se_sl rfl (se_vS 0 (pv 0) rfl) (so_some (se_sub (se_len rfl T.m_len (sa_cons (se_vS 0 (pv 0) rfl) sa_nil)) (se_vS 1 (pv 1) rfl))) so_none) .sb) sa_nil)) (fun _ _ _ => aLen_cons (fun _ _ _ => aLen_cons (fun _ _ _ => aLen_nil))))))) (fun _ _ _ _ _ => (se_vS 1 (pv 1) rfl)))) .vl))))))
theorem ok__law_pair (T : Tp K mg) : FnOk P w K mg base (L2N.CX P w) 4 T.f__law_pair T.d__law_pair ps__law_pair (spW K (cvK K) 2 F__law_pair) :=
  fn_W N__law_pair ps__law_pair 7 2 (cf__law_pair K mg) B__law_pair rfl rfl T.F__law_pair sc__law_pair rfl rfl (fun i h1 h2 => by
    match i, h1, h2 with
    | 1, _, _ => exact rfl
    | i + 2, _, h => exact absurd h (by simp)) (fun cdv A outer s H E hr tk pw =>
  (sss_cons (ss_setN (sg_of (i := 2) (SE.le (se_callW rfl tk (ok__law_letters T) (hr.mono (by decide : 2 ≤ 3)) (by rfl) T.g__law_letters T.F__law_letters.kp T.b__law_letters rfl (pv 0) sa_nil (aLen1 (fun _ _ _ => aLen_nil))) .vn) sc__law_pair.nd rfl (Or.inl rfl)) rfl)
  (sss_cons (ss_setN (sg_of (i := 3) (SE.le (se_callW rfl tk (ok__law_word T) hr (by rfl) T.g__law_word T.F__law_word.kp T.b__law_word rfl (pv 0) (sa_cons (SE.le (se_vN 2 (pv 2) rfl) .nb) (sa_cons (SE.le (se_ix rfl (se_lst (sa_cons se_int (sa_cons se_int (sa_cons se_int sa_nil)))) (se_callW rfl tk (ok__law_take T) (hr.mono (by decide : 1 ≤ 3)) (by rfl) T.g__law_take T.F__law_take.kp T.b__law_take rfl (pv 0) (sa_cons (SE.le se_int .vb) sa_nil) (aLen1 (fun _ _ _ => aLen_cons (fun _ _ _ => aLen_nil)))) (fun _ _ => rfl)) .vb) sa_nil)) (aLen1 (fun _ _ _ => aLen_cons (fun _ _ _ => aLen_cons (fun _ _ _ => aLen_nil))))) .vn) sc__law_pair.nd rfl (Or.inl rfl)) rfl)
  (sss_cons (ss_setN (sg_of (i := 4) (SE.le (se_callW rfl tk (ok__law_overlaid T) hr (by rfl) T.g__law_overlaid T.F__law_overlaid.kp T.b__law_overlaid rfl (pv 0) (sa_cons (SE.le (se_vN 2 (pv 2) rfl) .nb) (sa_cons (SE.le (se_vN 3 (pv 3) rfl) .nb) (sa_cons (SE.le (se_callW rfl tk (ok__law_take T) (hr.mono (by decide : 1 ≤ 3)) (by rfl) T.g__law_take T.F__law_take.kp T.b__law_take rfl (pv 0) (sa_cons (SE.le se_int .vb) sa_nil) (aLen1 (fun _ _ _ => aLen_cons (fun _ _ _ => aLen_nil)))) .vb) sa_nil))) (aLen1 (fun _ _ _ => aLen_cons (fun _ _ _ => aLen_cons (fun _ _ _ => aLen_cons (fun _ _ _ => aLen_nil)))))) .vn) sc__law_pair.nd rfl (Or.inl rfl)) rfl)
  (sss_cons (ss_if (st_and2 (st_tru rfl (se_vS 1 (pv 1) rfl)) (st_eq rfl hr.units (se_callW rfl tk (ok__law_take T) (hr.mono (by decide : 1 ≤ 3)) (by rfl) T.g__law_take T.F__law_take.kp T.b__law_take rfl (pv 0) (sa_cons (SE.le se_int .vb) sa_nil) (aLen1 (fun _ _ _ => aLen_cons (fun _ _ _ => aLen_nil)))) se_int)) (sss_cons (ss_setN (sg_of (i := 4) (SE.le (se_callW rfl tk (ok__law_overlaid T) hr (by rfl) T.g__law_overlaid T.F__law_overlaid.kp T.b__law_overlaid rfl (pv 0) (sa_cons (SE.le (se_vN 2 (pv 2) rfl) .nb) (sa_cons (SE.le (se_vN 3 (pv 3) rfl) .nb) (sa_cons (SE.le se_int .vb) sa_nil))) (aLen1 (fun _ _ _ => aLen_cons (fun _ _ _ => aLen_cons (fun _ _ _ => aLen_cons (fun _ _ _ => aLen_nil)))))) .vn) sc__law_pair.nd rfl (Or.inl rfl)) rfl)
  (sss_one (ss_while WFUEL pw (st_lt (se_len rfl T.m_len (sa_cons (se_vN 4 (pv 4) rfl) sa_nil)) se_int) (sss_one (ss_setN (sg_of (i := 4) (se_add (se_vN 4 (pv 4) rfl) (se_vN 4 (pv 4) rfl)) sc__law_pair.nd rfl (Or.inl rfl)) rfl))))) sss_nil)
  (sss_cons (ss_setS (sg_of (i := 5) (SE.le (se_callW rfl tk (ok__law_take T) (hr.mono (by decide : 1 ≤ 3)) (by rfl) T.g__law_take T.F__law_take.kp T.b__law_take rfl (pv 0) (sa_cons (SE.le (se_ix rfl (se_lst (sa_cons se_int (sa_cons (se_add (se_len rfl T.m_len (sa_cons (se_vN 3 (pv 3) rfl) sa_nil)) se_int) sa_nil))) (se_callW rfl tk (ok__law_take T) (hr.mono (by decide : 1 ≤ 3)) (by rfl) T.g__law_take T.F__law_take.kp T.b__law_take rfl (pv 0) (sa_cons (SE.le se_int .vb) sa_nil) (aLen1 (fun _ _ _ => aLen_cons (fun _ _ _ => aLen_nil)))) (fun _ _ => rfl)) .vb) sa_nil) (aLen1 (fun _ _ _ => aLen_cons (fun _ _ _ => aLen_nil)))) .vs) sc__law_pair.nd rfl (Or.inl rfl)) rfl)
  (sss_cons (ss_setS (sg_of (i := 6) (SE.le (se_callW rfl tk (ok__law_take T) (hr.mono (by decide : 1 ≤ 3)) (by rfl) T.g__law_take T.F__law_take.kp T.b__law_take rfl (pv 0) (sa_cons (SE.le (se_ix rfl (se_lst (sa_cons se_int (sa_cons (se_add (se_len rfl T.m_len (sa_cons (se_vN 3 (pv 3) rfl) sa_nil)) se_int) sa_nil))) (se_callW rfl tk (ok__law_take T) (hr.mono (by decide : 1 ≤ 3)) (by rfl) T.g__law_take T.F__law_take.kp T.b__law_take rfl (pv 0) (sa_cons (SE.le se_int .vb) sa_nil) (aLen1 (fun _ _ _ => aLen_cons (fun _ _ _ => aLen_nil)))) (fun _ _ => rfl)) .vb) sa_nil) (aLen1 (fun _ _ _ => aLen_cons (fun _ _ _ => aLen_nil)))) .vs) sc__law_pair.nd rfl (Or.inl rfl)) rfl)
  (sss_cons (ss_setN (sg_of (i := 4) (se_sl rfl (se_sl rfl (se_vN 4 (pv 4) rfl) (so_some (se_vS 5 (pv 5) rfl)) so_none) so_none (so_some se_int)) sc__law_pair.nd rfl (Or.inl rfl)) rfl)
  (sss_cons (ss_setN (sg_of (i := 4) (se_sl rfl (se_vN 4 (pv 4) rfl) so_none (so_some (se_sub (se_len rfl T.m_len (sa_cons (se_vN 4 (pv 4) rfl) sa_nil)) (se_min2 rfl T.m_min (sa_cons (SE.le (se_vS 6 (pv 6) rfl) .sb) (sa_cons (SE.le (se_len rfl T.m_len (sa_cons (se_vN 4 (pv 4) rfl) sa_nil)) .vb) sa_nil)))))) sc__law_pair.nd rfl (Or.inl rfl)) rfl)
  (sss_cons (ss_if (st_eq rfl hr.units (se_callW rfl tk (ok__law_take T) (hr.mono (by decide : 1 ≤ 3)) (by rfl) T.g__law_take T.F__law_take.kp T.b__law_take rfl (pv 0) (sa_cons (SE.le se_int .vb) sa_nil) (aLen1 (fun _ _ _ => aLen_cons (fun _ _ _ => aLen_nil)))) se_int) (sss_one (ss_setN (sg_of (i := 4) (SE.le (se_sl rfl (se_callW rfl tk (ok__law_bent T) hr (by rfl) T.g__law_bent T.F__law_bent.kp T.b__law_bent rfl (pv 0) (sa_cons (SE.le (se_vN 2 (pv 2) rfl) .nb) (sa_cons (SE.le (se_vN 4 (pv 4) rfl) .nb) sa_nil)) (aLen1 (fun _ _ _ => aLen_cons (fun _ _ _ => aLen_cons (fun _ _ _ => aLen_nil))))) so_none (so_some se_int)) .vn) sc__law_pair.nd rfl (Or.inl rfl)) rfl)) sss_nil)
  (sss_cons (ss_if (st_eq rfl hr.units (se_callW rfl tk (ok__law_take T) (hr.mono (by decide : 1 ≤ 3)) (by rfl) T.g__law_take T.F__law_take.kp T.b__law_take rfl (pv 0) (sa_cons (SE.le se_int .vb) sa_nil) (aLen1 (fun _ _ _ => aLen_cons (fun _ _ _ => aLen_nil)))) se_int) (sss_one (ss_setN (sg_of (i := 3) (SE.le (se_callW rfl tk (ok__law_bent T) hr (by rfl) T.g__law_bent T.F__law_bent.kp T.b__law_bent rfl (pv 0) (sa_cons (SE.le (se_vN 2 (pv 2) rfl) .nb) (sa_cons (SE.le (se_vN 3 (pv 3) rfl) .nb) sa_nil)) (aLen1 (fun _ _ _ => aLen_cons (fun _ _ _ => aLen_cons (fun _ _ _ => aLen_nil))))) .vn) sc__law_pair.nd rfl (Or.inl rfl)) rfl)) sss_nil)
  (sss_one (ss_ret (SE.le (se_tup (sa_cons (se_orT rfl (se_vN 4 (pv 4) rfl) (se_one (SE.nn (se_sl rfl (se_vN 2 (pv 2) rfl) so_none (so_some se_int))))) (sa_cons (se_orT rfl (se_vN 3 (pv 3) rfl) (se_one (SE.nn (se_sl rfl (se_vN 2 (pv 2) rfl) so_none (so_some se_int))))) sa_nil))) .nl))))))))))))))
theorem ok__law_right (T : Tp K mg) : FnOk P w K mg base (L2N.CX P w) 5 T.f__law_right T.d__law_right ps__law_right (spP K (cvK K) 1 F__law_right_v25) :=
  fn_P N__law_right ps__law_right 9 1 (cf__law_right K mg) B__law_right_v25 rfl rfl T.F__law_right sc__law_right rfl (fun i h1 => by
    match i, h1 with
    | 0, _ => exact rfl
    | i + 1, h => exact absurd h (by simp)) (fun cdv A outer s H E hr tk pw =>
  (sss_cons (ss_setS (sg_of (i := 1) (se_list1 rfl T.m_list (sa_cons (se_vS 0 (pv 0) rfl) sa_nil)) sc__law_right.nd rfl (Or.inl rfl)) rfl)
  (sss_cons (ss_setS (sg_of (i := 2) (SE.le (se_call rfl tk (ok__law_due T) (hr.mono (by decide : 2 ≤ 4)) (by rfl) T.g__law_due T.F__law_due.kp T.b__law_due (sa_cons (SE.le (se_vS 0 (pv 0) rfl) .sb) sa_nil) (fun _ _ _ => aLen_cons (fun _ _ _ => aLen_nil))) .vs) sc__law_right.nd rfl (Or.inl rfl)) rfl)
  (sss_cons (ss_if (st_lt (se_len rfl T.m_len (sa_cons (se_vS 0 (pv 0) rfl) sa_nil)) se_int) (sss_cons (ss_setS (sg_of (i := 4) (SE.le (se_lrg2 rfl T.m_list T.m_range se_int (se_add (se_len rfl T.m_len (sa_cons (se_vS 0 (pv 0) rfl) sa_nil)) se_int)) .vs) sc__law_right.nd rfl (Or.inl rfl)) rfl)
  (sss_cons (ss_if (st_ne rfl hr.units (se_ix rfl (se_vS 2 (pv 2) rfl) (SE.le se_int .vs) (fun _ _ => rfl)) (se_lc (c := .S) (own := [(Str.ofString "k", 7)]) rfl (own1 rfl) rfl sc__law_right.nd (SI.w (si_list rfl (se_vS 4 (pv 4) rfl))) (blkOk_by (own := [(Str.ofString "k", 7)]) (N := N__law_right) (sc := (defScope s__law_right)) (by decide +kernel)) (fun _ _ _ _ _ => (sgt_name (i := 7) (is := [7]) List.mem_cons_self rfl sc__law_right.nd rfl (Or.inl rfl))) (fun _ _ _ _ _ => (sts_one (st_val (se_call rfl takes0N (ok__law_by_trial T) (hr.mono (by decide : 2 ≤ 4)) (by rfl) T.g__law_by_trial T.F__law_by_trial.kp T.b__law_by_trial (sa_cons (SE.le (se_vS 0 (pv 0) rfl) .sb) (sa_cons (SE.le (se_sl rfl (se_vS 0 (pv 0) rfl) so_none (so_some (se_vS 7 (pv 7) rfl))) .sb) (sa_cons (SE.le se_bl .vb) (sa_cons (SE.le se_bl .vb) sa_nil)))) (fun _ _ _ => aLen_cons (fun _ _ _ => aLen_cons (fun _ _ _ => aLen_cons (fun _ _ _ => aLen_cons (fun _ _ _ => aLen_nil))))))))) (fun _ _ _ _ _ => (se_vS 7 (pv 7) rfl)))) (sss_one (ss_ret (SE.le se_bl .vl))) sss_nil)
  (sss_one (ss_if (st_ne rfl hr.units (se_ix rfl (se_vS 2 (pv 2) rfl) (SE.le se_int .vs) (fun _ _ => rfl)) (se_lc (c := .S) (own := [(Str.ofString "k", 7)]) rfl (own1 rfl) rfl sc__law_right.nd (SI.w (si_list rfl (se_vS 4 (pv 4) rfl))) (blkOk_by (own := [(Str.ofString "k", 7)]) (N := N__law_right) (sc := (defScope s__law_right)) (by decide +kernel)) (fun _ _ _ _ _ => (sgt_name (i := 7) (is := [7]) List.mem_cons_self rfl sc__law_right.nd rfl (Or.inl rfl))) (fun _ _ _ _ _ => (sts_one (st_val (se_call rfl takes0N (ok__law_by_trial T) (hr.mono (by decide : 2 ≤ 4)) (by rfl) T.g__law_by_trial T.F__law_by_trial.kp T.b__law_by_trial (sa_cons (SE.le (se_vS 0 (pv 0) rfl) .sb) (sa_cons (SE.le (se_sl rfl (se_vS 0 (pv 0) rfl) (so_some (se_sub (se_len rfl T.m_len (sa_cons (se_vS 0 (pv 0) rfl) sa_nil)) (se_vS 7 (pv 7) rfl))) so_none) .sb) (sa_cons (SE.le se_bl .vb) (sa_cons (SE.le se_bl .vb) sa_nil)))) (fun _ _ _ => aLen_cons (fun _ _ _ => aLen_cons (fun _ _ _ => aLen_cons (fun _ _ _ => aLen_cons (fun _ _ _ => aLen_nil))))))))) (fun _ _ _ _ _ => (se_vS 7 (pv 7) rfl)))) (sss_one (ss_ret (SE.le se_bl .vl))) sss_nil)))) sss_nil)
  (sss_cons (ss_for pw rfl (si_range1 (by rfl) T.m_range (sa_cons (SE.le se_int .vb) sa_nil)) (sgt_name (i := 3) (is := [3]) List.mem_cons_self rfl sc__law_right.nd rfl (Or.inl rfl)) (sss_cons (ss_setO (sgo_of (i := 5) (seo_lst (sao_cons (se_call rfl tk (ok_beginnings_with_rest T) hr (by rfl) T.g_beginnings_with_rest T.F_beginnings_with_rest.kp T.b_beginnings_with_rest (sa_cons (SE.le (se_vS 1 (pv 1) rfl) .sb) sa_nil) (fun _ _ _ => aLen_cons (fun _ _ _ => aLen_nil))) (sao_cons (se_call rfl tk (ok_ends_with_rest T) hr (by rfl) T.g_ends_with_rest T.F_ends_with_rest.kp T.b_ends_with_rest (sa_cons (SE.le (se_vS 1 (pv 1) rfl) .sb) sa_nil) (fun _ _ _ => aLen_cons (fun _ _ _ => aLen_nil))) sao_nil))) sc__law_right.nd rfl (Or.inl rfl)) rfl)
  (sss_cons (ss_if (st_or2 (st_ne rfl hr.units (se_vP 5 (pv 5) rfl) (se_vS 2 (pv 2) rfl)) (st_ne rfl hr.units (se_vS 1 (pv 1) rfl) (se_vS 0 (pv 0) rfl))) (sss_one (ss_ret (SE.le se_bl .vl))) sss_nil)
  (sss_one (ss_forO (i := 5) (j := 6) pw rfl rfl (pv 5) rfl rfl sc__law_right.nd rfl (Or.inl rfl) (sb_ask rfl rfl (sq_if (st_not (st_val (se_isi (T := "list") rfl (by decide) T.m_isinstance T.m_list (by decide +kernel) (se_vS 6 (pv 6) rfl)))) (sqs_one (sq_ret (SE.le se_bl .vl))) sqs_nil)
  (sb_ask rfl rfl (sq_if (st_ne rfl hr.units (se_lc (c := .S) (own := [(Str.ofString "one", 8)]) rfl (own1 rfl) rfl sc__law_right.nd (SI.w (si_list rfl (se_vS 6 (pv 6) rfl))) (blkOk_by (own := [(Str.ofString "one", 8)]) (N := N__law_right) (sc := (defScope s__law_right)) (by decide +kernel)) (fun _ _ _ _ _ => (sgt_name (i := 8) (is := [8]) List.mem_cons_self rfl sc__law_right.nd rfl (Or.inl rfl))) (fun _ _ _ _ _ => (sts_one (st_val (se_isi (T := "bool") rfl (by decide) T.m_isinstance T.m_bool (by decide +kernel) (se_vS 8 (pv 8) rfl))))) (fun _ _ _ _ _ => (se_vS 8 (pv 8) rfl))) (se_lst (c := .V) sa_nil)) (sqs_one (sq_ret (SE.le se_bl .vl))) sqs_nil)
  (sb_app (i := 5) (j := 6) rfl (pv 6) rfl se_int (hkj := rfl)))))))))
  (sss_one (ss_ret (SE.le se_bl .vl))))))))
theorem ok_law (T : Tp K mg) : FnOk P w K mg base CX0 6 T.f_law T.d_law ps_law (spLaw K F_law_k18) :=
  fn_law N_law 8 (cf_law K mg) B_law_k18 rfl T.F_law sc_law rfl rfl (fun cdv A outer s H E hr =>
  (sss_cons (ss_for PassesOwn.never rfl (si_list rfl (SE.le (se_add (se_slQ rfl (pv 0) rfl so_none (so_some se_int)) (se_lst (sa_cons (se_callQ rfl takes0N (ok__law_cell_at T) (hr.mono (by decide : 1 ≤ 5)) (by rfl) T.g__law_cell_at T.F__law_cell_at.kp T.b__law_cell_at rfl (pv 0) (sa_cons (SE.le se_int .vb) sa_nil) (aLen1 (fun _ _ _ => aLen_cons (fun _ _ _ => aLen_nil)))) sa_nil))) .vs)) (sgt_name (i := 1) (is := [1]) List.mem_cons_self rfl sc_law.nd rfl (Or.inl rfl)) (sss_cons (ss_setW (sg_of (i := 2) (se_call rfl takes0N (ok__law_deck T) (hr.mono (by decide : 1 ≤ 5)) (by rfl) T.g__law_deck T.F__law_deck.kp T.b__law_deck (sa_cons (SE.le (se_vS 1 (pv 1) rfl) .sb) sa_nil) (fun _ _ _ => aLen_cons (fun _ _ _ => aLen_nil))) sc_law.nd rfl (Or.inl rfl)) rfl (by decide))
  (sss_cons (ss_unp (SE.le (se_callW rfl takes0N (ok__law_pair T) (hr.mono (by decide : 4 ≤ 5)) (by rfl) T.g__law_pair T.F__law_pair.kp T.b__law_pair rfl (pv 2) (sa_cons (SE.le se_bl .vb) sa_nil) (aLen1 (fun _ _ _ => aLen_cons (fun _ _ _ => aLen_nil)))) .vs) (sgt_tup (is := [3, 4]) (js := [3, 4]) rfl rfl (sgts_cons (i := 3) (by decide) rfl sc_law.nd rfl (Or.inl rfl) (sgts_cons (i := 4) (by decide) rfl sc_law.nd rfl (Or.inl rfl) sgts_nil)) rfl))
  (sss_cons (ss_setS (sg_of (i := 5) (SE.le (se_callW rfl takes0N (ok__law_take T) (hr.mono (by decide : 1 ≤ 5)) (by rfl) T.g__law_take T.F__law_take.kp T.b__law_take rfl (pv 2) (sa_cons (SE.le (se_add (se_len rfl T.m_len (sa_cons (se_vS 4 (pv 4) rfl) sa_nil)) se_int) .vb) sa_nil) (aLen1 (fun _ _ _ => aLen_cons (fun _ _ _ => aLen_nil)))) .vs) sc_law.nd rfl (Or.inl rfl)) rfl)
  (sss_cons (ss_setS (sg_of (i := 6) (se_add (se_mul (se_vS 4 (pv 4) rfl) (SE.le (se_add se_int (se_callW rfl takes0N (ok__law_take T) (hr.mono (by decide : 1 ≤ 5)) (by rfl) T.g__law_take T.F__law_take.kp T.b__law_take rfl (pv 2) (sa_cons (SE.le se_int .vb) sa_nil) (aLen1 (fun _ _ _ => aLen_cons (fun _ _ _ => aLen_nil))))) .vs)) (se_sl rfl (se_vS 4 (pv 4) rfl) so_none (so_some (se_vS 5 (pv 5) rfl)))) sc_law.nd rfl (Or.inl rfl)) rfl)
  (sss_one (ss_for PassesOwn.never rfl (si_list rfl (se_lst (sa_cons (se_vS 3 (pv 3) rfl) (sa_cons (se_sl rfl (se_vS 3 (pv 3) rfl) so_none (so_some se_int)) (sa_cons (se_sl rfl (se_vS 6 (pv 6) rfl) so_none (so_some se_int)) (sa_cons (se_sl rfl (se_add (se_sl rfl (se_vS 4 (pv 4) rfl) (so_some (se_vS 5 (pv 5) rfl)) so_none) (se_vS 6 (pv 6) rfl)) so_none (so_some se_int)) sa_nil)))))) (sgt_name (i := 7) (is := [7]) List.mem_cons_self rfl sc_law.nd rfl (Or.inl rfl)) (sss_one (ss_if (st_and2 (st_ne rfl hr.units (se_vS 7 (pv 7) rfl) (se_lst (c := .V) sa_nil)) (st_not (st_val (se_call rfl takes0N (ok__law_right T) hr (by rfl) T.g__law_right T.F__law_right.kp T.b__law_right (sa_cons (SE.le (se_vS 7 (pv 7) rfl) .sb) sa_nil) (fun _ _ _ => aLen_cons (fun _ _ _ => aLen_nil)))))) (sss_one (ss_ret (SE.le se_bl .vl))) sss_nil)))))))))
  (sss_one (ss_ret (SE.le se_bl .vl)))))
end
theorem all_mk {l : PySem.W.OpenLaw} {w : World} {K : PySem.W.Frag} {h : Heap} {mg : Str → Option Value} {fa : Addr} {f0 f1 f2 f3 f4 f5 f6 f7 f8 f9 f10 f11 f12 f13 f14 f15 f16 f17 f18 f19 f20 f21 f22 f23 f24 f25 f26 : Addr} {od0 an0 od1 an1 od2 an2 od3 an3 od4 an4 od5 an5 od6 an6 od7 an7 od8 an8 od9 an9 od10 an10 od11 an11 od12 an12 od13 an13 od14 an14 od15 an15 od16 an16 od17 an17 od18 an18 od19 an19 od20 an20 od21 an21 od22 an22 od23 an23 od24 an24 od25 an25 od26 an26 : Option Addr} {sl0 sl1 sl2 sl3 sl4 sl5 sl6 sl7 sl8 sl9 sl10 sl11 sl12 sl13 sl14 sl15 sl16 sl17 sl18 sl19 sl20 sl21 sl22 sl23 sl24 sl25 sl26 : Array (Option Value)} {oc0 kV0 dc0 pm0 cd0 ct0 oc1 kV1 dc1 pm1 cd1 ct1 oc2 kV2 dc2 pm2 cd2 ct2 oc3 kV3 dc3 pm3 cd3 ct3 oc4 kV4 dc4 pm4 cd4 ct4 oc5 kV5 dc5 pm5 cd5 ct5 oc6 kV6 dc6 pm6 cd6 ct6 oc7 kV7 dc7 pm7 cd7 ct7 oc8 kV8 dc8 pm8 cd8 ct8 oc9 kV9 dc9 pm9 cd9 ct9 oc10 kV10 dc10 pm10 cd10 ct10 oc11 kV11 dc11 pm11 cd11 ct11 oc12 kV12 dc12 pm12 cd12 ct12 oc13 kV13 dc13 pm13 cd13 ct13 oc14 kV14 dc14 pm14 cd14 ct14 oc15 kV15 dc15 pm15 cd15 ct15 oc16 kV16 dc16 pm16 cd16 ct16 oc17 kV17 dc17 pm17 cd17 ct17 oc18 kV18 dc18 pm18 cd18 ct18 oc19 kV19 dc19 pm19 cd19 ct19 oc20 kV20 dc20 pm20 cd20 ct20 oc21 kV21 dc21 pm21 cd21 ct21 oc22 kV22 dc22 pm22 cd22 ct22 oc23 kV23 dc23 pm23 cd23 ct23 oc24 kV24 dc24 pm24 cd24 ct24 oc25 kV25 dc25 pm25 cd25 ct25 oc26 kV26 dc26 pm26 cd26 ct26 : Value} {t0 : Tok} {cc0 cc1 cc2 : Addr} (X : K.In h) (G : h.Ns mainGlobals mg) (hfa : mg (Str.ofString "law") = some (.ref fa))
    (a0 : PySem.W.nsIn K mainGlobals (Str.ofString "need_word") = some (some (.ref f0))) (l0 : K.lookup f0 = some ⟨oc0, od0, .func (PySem.W.fnOf (Str.ofString "need_word") (Str.ofString "need_word") (defArgs s_need_word) (defBody s_need_word) (defScope s_need_word) .none kV0 dc0 pm0 an0 cd0 ct0), sl0⟩) (c0 : PySem.W.codeIn K cd0 (Str.ofString "need_word") = true) (k0 : PySem.W.keepIn K (.ref f0) = true)
    (a1 : PySem.W.nsIn K mainGlobals (Str.ofString "need_signs") = some (some (.ref f1))) (l1 : K.lookup f1 = some ⟨oc1, od1, .func (PySem.W.fnOf (Str.ofString "need_signs") (Str.ofString "need_signs") (defArgs s_need_signs) (defBody s_need_signs) (defScope s_need_signs) .none kV1 dc1 pm1 an1 cd1 ct1), sl1⟩) (c1 : PySem.W.codeIn K cd1 (Str.ofString "need_signs") = true) (k1 : PySem.W.keepIn K (.ref f1) = true)
    (a2 : PySem.W.nsIn K mainGlobals (Str.ofString "need_text") = some (some (.ref f2))) (l2 : K.lookup f2 = some ⟨oc2, od2, .func (PySem.W.fnOf (Str.ofString "need_text") (Str.ofString "need_text") (defArgs s_need_text) (defBody s_need_text) (defScope s_need_text) .none kV2 dc2 pm2 an2 cd2 ct2), sl2⟩) (c2 : PySem.W.codeIn K cd2 (Str.ofString "need_text") = true) (k2 : PySem.W.keepIn K (.ref f2) = true)
    (a3 : PySem.W.nsIn K mainGlobals (Str.ofString "laid_at") = some (some (.ref f3))) (l3 : K.lookup f3 = some ⟨oc3, od3, .func (PySem.W.fnOf (Str.ofString "laid_at") (Str.ofString "laid_at") (defArgs s_laid_at) (defBody s_laid_at) (defScope s_laid_at) .none kV3 dc3 pm3 an3 cd3 ct3), sl3⟩) (c3 : PySem.W.codeIn K cd3 (Str.ofString "laid_at") = true) (k3 : PySem.W.keepIn K (.ref f3) = true)
    (a4 : PySem.W.nsIn K mainGlobals (Str.ofString "hung_ahead") = some (some (.ref f4))) (l4 : K.lookup f4 = some ⟨oc4, od4, .func (PySem.W.fnOf (Str.ofString "hung_ahead") (Str.ofString "hung_ahead") (defArgs s_hung_ahead) (defBody s_hung_ahead) (defScope s_hung_ahead) .none kV4 dc4 pm4 an4 cd4 ct4), sl4⟩) (c4 : PySem.W.codeIn K cd4 (Str.ofString "hung_ahead") = true) (k4 : PySem.W.keepIn K (.ref f4) = true)
    (a5 : PySem.W.nsIn K mainGlobals (Str.ofString "hung_behind") = some (some (.ref f5))) (l5 : K.lookup f5 = some ⟨oc5, od5, .func (PySem.W.fnOf (Str.ofString "hung_behind") (Str.ofString "hung_behind") (defArgs s_hung_behind) (defBody s_hung_behind) (defScope s_hung_behind) .none kV5 dc5 pm5 an5 cd5 ct5), sl5⟩) (c5 : PySem.W.codeIn K cd5 (Str.ofString "hung_behind") = true) (k5 : PySem.W.keepIn K (.ref f5) = true)
    (a6 : PySem.W.nsIn K mainGlobals (Str.ofString "_law_cell_at") = some (some (.ref f6))) (l6 : K.lookup f6 = some ⟨oc6, od6, .func (PySem.W.fnOf (Str.ofString "_law_cell_at") (Str.ofString "_law_cell_at") (defArgs s__law_cell_at) (defBody s__law_cell_at) (defScope s__law_cell_at) .none kV6 dc6 pm6 an6 cd6 ct6), sl6⟩) (c6 : PySem.W.codeIn K cd6 (Str.ofString "_law_cell_at") = true) (k6 : PySem.W.keepIn K (.ref f6) = true)
    (a7 : PySem.W.nsIn K mainGlobals (Str.ofString "_law_deck") = some (some (.ref f7))) (l7 : K.lookup f7 = some ⟨oc7, od7, .func (PySem.W.fnOf (Str.ofString "_law_deck") (Str.ofString "_law_deck") (defArgs s__law_deck) (defBody s__law_deck) (defScope s__law_deck) .none kV7 dc7 pm7 an7 cd7 ct7), sl7⟩) (c7 : PySem.W.codeIn K cd7 (Str.ofString "_law_deck") = true) (k7 : PySem.W.keepIn K (.ref f7) = true)
    (a8 : PySem.W.nsIn K mainGlobals (Str.ofString "_law_take") = some (some (.ref f8))) (l8 : K.lookup f8 = some ⟨oc8, od8, .func (PySem.W.fnOf (Str.ofString "_law_take") (Str.ofString "_law_take") (defArgs s__law_take) (defBody s__law_take) (defScope s__law_take) .none kV8 dc8 pm8 an8 cd8 ct8), sl8⟩) (c8 : PySem.W.codeIn K cd8 (Str.ofString "_law_take") = true) (k8 : PySem.W.keepIn K (.ref f8) = true)
    (a9 : PySem.W.nsIn K mainGlobals (Str.ofString "_law_is_covered") = some (some (.ref f9))) (l9 : K.lookup f9 = some ⟨oc9, od9, .func (PySem.W.fnOf (Str.ofString "_law_is_covered") (Str.ofString "_law_is_covered") (defArgs s__law_is_covered) (defBody s__law_is_covered) (defScope s__law_is_covered) .none kV9 dc9 pm9 an9 cd9 ct9), sl9⟩) (c9 : PySem.W.codeIn K cd9 (Str.ofString "_law_is_covered") = true) (k9 : PySem.W.keepIn K (.ref f9) = true)
    (a10 : PySem.W.nsIn K mainGlobals (Str.ofString "_law_rest") = some (some (.ref f10))) (l10 : K.lookup f10 = some ⟨oc10, od10, .func (PySem.W.fnOf (Str.ofString "_law_rest") (Str.ofString "_law_rest") (defArgs s__law_rest) (defBody s__law_rest) (defScope s__law_rest) .none kV10 dc10 pm10 an10 cd10 ct10), sl10⟩) (c10 : PySem.W.codeIn K cd10 (Str.ofString "_law_rest") = true) (k10 : PySem.W.keepIn K (.ref f10) = true)
    (a11 : PySem.W.nsIn K mainGlobals (Str.ofString "need_both") = some (some (.ref f11))) (l11 : K.lookup f11 = some ⟨oc11, od11, .func (PySem.W.fnOf (Str.ofString "need_both") (Str.ofString "need_both") (defArgs s_need_both) (defBody s_need_both) (defScope s_need_both) .none kV11 dc11 pm11 an11 cd11 ct11), sl11⟩) (c11 : PySem.W.codeIn K cd11 (Str.ofString "need_both") = true) (k11 : PySem.W.keepIn K (.ref f11) = true)
    (a12 : PySem.W.nsIn K mainGlobals (Str.ofString "covers_amid") = some (some (.ref f12))) (l12 : K.lookup f12 = some ⟨oc12, od12, .func (PySem.W.fnOf (Str.ofString "covers_amid") (Str.ofString "covers_amid") (defArgs s_covers_amid) (defBody s_covers_amid) (defScope s_covers_amid) .none kV12 dc12 pm12 an12 cd12 ct12), sl12⟩) (c12 : PySem.W.codeIn K cd12 (Str.ofString "covers_amid") = true) (k12 : PySem.W.keepIn K (.ref f12) = true)
    (a13 : PySem.W.nsIn K mainGlobals (Str.ofString "_law_letters") = some (some (.ref f13))) (l13 : K.lookup f13 = some ⟨oc13, od13, .func (PySem.W.fnOf (Str.ofString "_law_letters") (Str.ofString "_law_letters") (defArgs s__law_letters) (defBody s__law_letters) (defScope s__law_letters) .none kV13 dc13 pm13 an13 cd13 ct13), sl13⟩) (c13 : PySem.W.codeIn K cd13 (Str.ofString "_law_letters") = true) (k13 : PySem.W.keepIn K (.ref f13) = true)
    (a14 : PySem.W.nsIn K mainGlobals (Str.ofString "_law_signs") = some (some (.ref f14))) (l14 : K.lookup f14 = some ⟨oc14, od14, .func (PySem.W.fnOf (Str.ofString "_law_signs") (Str.ofString "_law_signs") (defArgs s__law_signs) (defBody s__law_signs) (defScope s__law_signs) .none kV14 dc14 pm14 an14 cd14 ct14), sl14⟩) (c14 : PySem.W.codeIn K cd14 (Str.ofString "_law_signs") = true) (k14 : PySem.W.keepIn K (.ref f14) = true)
    (a15 : PySem.W.nsIn K mainGlobals (Str.ofString "_law_by_trial") = some (some (.ref f15))) (l15 : K.lookup f15 = some ⟨oc15, od15, .func (PySem.W.fnOf (Str.ofString "_law_by_trial") (Str.ofString "_law_by_trial") (defArgs s__law_by_trial) (defBody s__law_by_trial) (defScope s__law_by_trial) .none kV15 dc15 pm15 an15 cd15 ct15), sl15⟩) (c15 : PySem.W.codeIn K cd15 (Str.ofString "_law_by_trial") = true) (k15 : PySem.W.keepIn K (.ref f15) = true)
    (a16 : PySem.W.nsIn K mainGlobals (Str.ofString "_law_due") = some (some (.ref f16))) (l16 : K.lookup f16 = some ⟨oc16, od16, .func (PySem.W.fnOf (Str.ofString "_law_due") (Str.ofString "_law_due") (defArgs s__law_due) (defBody s__law_due) (defScope s__law_due) .none kV16 dc16 pm16 an16 cd16 ct16), sl16⟩) (c16 : PySem.W.codeIn K cd16 (Str.ofString "_law_due") = true) (k16 : PySem.W.keepIn K (.ref f16) = true)
    (a17 : PySem.W.nsIn K mainGlobals (Str.ofString "rest_behind") = some (some (.ref f17))) (l17 : K.lookup f17 = some ⟨oc17, od17, .func (PySem.W.fnOf (Str.ofString "rest_behind") (Str.ofString "rest_behind") (defArgs s_rest_behind) (defBody s_rest_behind) (defScope s_rest_behind) .none kV17 dc17 pm17 an17 cd17 ct17), sl17⟩) (c17 : PySem.W.codeIn K cd17 (Str.ofString "rest_behind") = true) (k17 : PySem.W.keepIn K (.ref f17) = true)
    (a18 : PySem.W.nsIn K mainGlobals (Str.ofString "rest_ahead") = some (some (.ref f18))) (l18 : K.lookup f18 = some ⟨oc18, od18, .func (PySem.W.fnOf (Str.ofString "rest_ahead") (Str.ofString "rest_ahead") (defArgs s_rest_ahead) (defBody s_rest_ahead) (defScope s_rest_ahead) .none kV18 dc18 pm18 an18 cd18 ct18), sl18⟩) (c18 : PySem.W.codeIn K cd18 (Str.ofString "rest_ahead") = true) (k18 : PySem.W.keepIn K (.ref f18) = true)
    (a19 : PySem.W.nsIn K mainGlobals (Str.ofString "_law_word") = some (some (.ref f19))) (l19 : K.lookup f19 = some ⟨oc19, od19, .func (PySem.W.fnOf (Str.ofString "_law_word") (Str.ofString "_law_word") (defArgs s__law_word) (defBody s__law_word) (defScope s__law_word) .none kV19 dc19 pm19 an19 cd19 ct19), sl19⟩) (c19 : PySem.W.codeIn K cd19 (Str.ofString "_law_word") = true) (k19 : PySem.W.keepIn K (.ref f19) = true)
    (a20 : PySem.W.nsIn K mainGlobals (Str.ofString "_law_overlaid") = some (some (.ref f20))) (l20 : K.lookup f20 = some ⟨oc20, od20, .func (PySem.W.fnOf (Str.ofString "_law_overlaid") (Str.ofString "_law_overlaid") (defArgs s__law_overlaid) (defBody s__law_overlaid) (defScope s__law_overlaid) .none kV20 dc20 pm20 an20 cd20 ct20), sl20⟩) (c20 : PySem.W.codeIn K cd20 (Str.ofString "_law_overlaid") = true) (k20 : PySem.W.keepIn K (.ref f20) = true)
    (a21 : PySem.W.nsIn K mainGlobals (Str.ofString "_law_bent") = some (some (.ref f21))) (l21 : K.lookup f21 = some ⟨oc21, od21, .func (PySem.W.fnOf (Str.ofString "_law_bent") (Str.ofString "_law_bent") (defArgs s__law_bent) (defBody s__law_bent) (defScope s__law_bent) .none kV21 dc21 pm21 an21 cd21 ct21), sl21⟩) (c21 : PySem.W.codeIn K cd21 (Str.ofString "_law_bent") = true) (k21 : PySem.W.keepIn K (.ref f21) = true)
    (a22 : PySem.W.nsIn K mainGlobals (Str.ofString "beginnings_with_rest") = some (some (.ref f22))) (l22 : K.lookup f22 = some ⟨oc22, od22, .func (PySem.W.fnOf (Str.ofString "beginnings_with_rest") (Str.ofString "beginnings_with_rest") (defArgs s_beginnings_with_rest) (defBody s_beginnings_with_rest) (defScope s_beginnings_with_rest) .none kV22 dc22 pm22 an22 cd22 ct22), sl22⟩) (c22 : PySem.W.codeIn K cd22 (Str.ofString "beginnings_with_rest") = true) (k22 : PySem.W.keepIn K (.ref f22) = true)
    (a23 : PySem.W.nsIn K mainGlobals (Str.ofString "ends_with_rest") = some (some (.ref f23))) (l23 : K.lookup f23 = some ⟨oc23, od23, .func (PySem.W.fnOf (Str.ofString "ends_with_rest") (Str.ofString "ends_with_rest") (defArgs s_ends_with_rest) (defBody s_ends_with_rest) (defScope s_ends_with_rest) .none kV23 dc23 pm23 an23 cd23 ct23), sl23⟩) (c23 : PySem.W.codeIn K cd23 (Str.ofString "ends_with_rest") = true) (k23 : PySem.W.keepIn K (.ref f23) = true)
    (a24 : PySem.W.nsIn K mainGlobals (Str.ofString "_law_pair") = some (some (.ref f24))) (l24 : K.lookup f24 = some ⟨oc24, od24, .func (PySem.W.fnOf (Str.ofString "_law_pair") (Str.ofString "_law_pair") (defArgs s__law_pair) (defBody s__law_pair) (defScope s__law_pair) .none kV24 dc24 pm24 an24 cd24 ct24), sl24⟩) (c24 : PySem.W.codeIn K cd24 (Str.ofString "_law_pair") = true) (k24 : PySem.W.keepIn K (.ref f24) = true)
    (a25 : PySem.W.nsIn K mainGlobals (Str.ofString "_law_right") = some (some (.ref f25))) (l25 : K.lookup f25 = some ⟨oc25, od25, .func (PySem.W.fnOf (Str.ofString "_law_right") (Str.ofString "_law_right") (defArgs s__law_right) (defBody s__law_right) (defScope s__law_right) .none kV25 dc25 pm25 an25 cd25 ct25), sl25⟩) (c25 : PySem.W.codeIn K cd25 (Str.ofString "_law_right") = true) (k25 : PySem.W.keepIn K (.ref f25) = true)
    (a26 : PySem.W.nsIn K mainGlobals (Str.ofString "law") = some (some (.ref f26))) (l26 : K.lookup f26 = some ⟨oc26, od26, .func (PySem.W.fnOf (Str.ofString "law") (Str.ofString "law") (defArgs s_law) (defBody s_law) (defScope s_law) .none kV26 dc26 pm26 an26 cd26 ct26), sl26⟩) (c26 : PySem.W.codeIn K cd26 (Str.ofString "law") = true) (k26 : PySem.W.keepIn K (.ref f26) = true)
    (e0 : PySem.W.nsIn K mainGlobals (Str.ofString "LETTERS") = some (some (.str (Str.ofString "abcdefghijklmnopqrstuvwxyz") t0)))
    (z0 : PySem.W.nsIn K mainGlobals (Str.ofString "bool") = some none)
    (z1 : PySem.W.nsIn K mainGlobals (Str.ofString "int") = some none)
    (z2 : PySem.W.nsIn K mainGlobals (Str.ofString "isinstance") = some none)
    (z3 : PySem.W.nsIn K mainGlobals (Str.ofString "len") = some none)
    (z4 : PySem.W.nsIn K mainGlobals (Str.ofString "list") = some none)
    (z5 : PySem.W.nsIn K mainGlobals (Str.ofString "max") = some none)
    (z6 : PySem.W.nsIn K mainGlobals (Str.ofString "min") = some none)
    (z7 : PySem.W.nsIn K mainGlobals (Str.ofString "range") = some none)
    (xn0 : PySem.W.nsIn K mainGlobals (Str.ofString "NoWord") = some (some (.ref cc0)))
    (xx0 : PySem.W.excIn K cc0 [.type "ValueError", .type "Exception", .type "BaseException", .type "object"] "ValueError.__new__" = true)
    (xk0 : PySem.W.keepIn K (.ref cc0) = true)
    (xb0 : PySem.W.subIn K (.ref cc0) (.type "BaseException") = some true)
    (xt0 : PySem.W.typeIn K (.ref cc0) = some (.type "type"))
    (xd0 : PySem.W.hasDictIn K cc0 = true)
    (xs0 : PySem.W.subIn K (.ref cc0) (.ref cc0) = some true)
    (xn1 : PySem.W.nsIn K mainGlobals (Str.ofString "NoSign") = some (some (.ref cc1)))
    (xx1 : PySem.W.excIn K cc1 [.type "ValueError", .type "Exception", .type "BaseException", .type "object"] "ValueError.__new__" = true)
    (xk1 : PySem.W.keepIn K (.ref cc1) = true)
    (xb1 : PySem.W.subIn K (.ref cc1) (.type "BaseException") = some true)
    (xt1 : PySem.W.typeIn K (.ref cc1) = some (.type "type"))
    (xd1 : PySem.W.hasDictIn K cc1 = true)
    (xs1 : PySem.W.subIn K (.ref cc1) (.ref cc1) = some true)
    (xn2 : PySem.W.nsIn K mainGlobals (Str.ofString "NoText") = some (some (.ref cc2)))
    (xx2 : PySem.W.excIn K cc2 [.type "ValueError", .type "Exception", .type "BaseException", .type "object"] "ValueError.__new__" = true)
    (xk2 : PySem.W.keepIn K (.ref cc2) = true)
    (xb2 : PySem.W.subIn K (.ref cc2) (.type "BaseException") = some true)
    (xt2 : PySem.W.typeIn K (.ref cc2) = some (.type "type"))
    (xd2 : PySem.W.hasDictIn K cc2 = true)
    (xs2 : PySem.W.subIn K (.ref cc2) (.ref cc2) = some true) :
    ∃ fd : FuncData, (∀ (s : Shared) (v : Value), BindsTo s fd ⟨[v], []⟩ [(Str.ofString "script", v)]) ∧ ∀ base : Heap, K.In base → base.Ns mainGlobals mg → FnOk l.prog w K mg base CX0 6 fa fd [Str.ofString "script"] (spLaw K Ov.F_law_k18) := by
  have e := hfa.symm.trans (PySem.W.mg_of X G a26)
  cases e
  have F0 := fun_mk (st := s_need_word) l0 c0 k0
  have F1 := fun_mk (st := s_need_signs) l1 c1 k1
  have F2 := fun_mk (st := s_need_text) l2 c2 k2
  have F3 := fun_mk (st := s_laid_at) l3 c3 k3
  have F4 := fun_mk (st := s_hung_ahead) l4 c4 k4
  have F5 := fun_mk (st := s_hung_behind) l5 c5 k5
  have F6 := fun_mk (st := s__law_cell_at) l6 c6 k6
  have F7 := fun_mk (st := s__law_deck) l7 c7 k7
  have F8 := fun_mk (st := s__law_take) l8 c8 k8
  have F9 := fun_mk (st := s__law_is_covered) l9 c9 k9
  have F10 := fun_mk (st := s__law_rest) l10 c10 k10
  have F11 := fun_mk (st := s_need_both) l11 c11 k11
  have F12 := fun_mk (st := s_covers_amid) l12 c12 k12
  have F13 := fun_mk (st := s__law_letters) l13 c13 k13
  have F14 := fun_mk (st := s__law_signs) l14 c14 k14
  have F15 := fun_mk (st := s__law_by_trial) l15 c15 k15
  have F16 := fun_mk (st := s__law_due) l16 c16 k16
  have F17 := fun_mk (st := s_rest_behind) l17 c17 k17
  have F18 := fun_mk (st := s_rest_ahead) l18 c18 k18
  have F19 := fun_mk (st := s__law_word) l19 c19 k19
  have F20 := fun_mk (st := s__law_overlaid) l20 c20 k20
  have F21 := fun_mk (st := s__law_bent) l21 c21 k21
  have F22 := fun_mk (st := s_beginnings_with_rest) l22 c22 k22
  have F23 := fun_mk (st := s_ends_with_rest) l23 c23 k23
  have F24 := fun_mk (st := s__law_pair) l24 c24 k24
  have F25 := fun_mk (st := s__law_right) l25 c25 k25
  have F26 := fun_mk (st := s_law) l26 c26 k26
  let T : Tp K mg := ⟨_, _, F0, PySem.W.mg_of X G a0, F0.binds (ps := ps_need_word) (fun _ _ _ _ _ _ us hl => match us, hl with | [_], _ => rfl),
    _, _, F1, PySem.W.mg_of X G a1, F1.binds (ps := ps_need_signs) (fun _ _ _ _ _ _ us hl => match us, hl with | [_], _ => rfl),
    _, _, F2, PySem.W.mg_of X G a2, F2.binds (ps := ps_need_text) (fun _ _ _ _ _ _ us hl => match us, hl with | [_], _ => rfl),
    _, _, F3, PySem.W.mg_of X G a3, F3.binds (ps := ps_laid_at) (fun _ _ _ _ _ _ us hl => match us, hl with | [_, _], _ => rfl),
    _, _, F4, PySem.W.mg_of X G a4, F4.binds (ps := ps_hung_ahead) (fun _ _ _ _ _ _ us hl => match us, hl with | [_, _], _ => rfl),
    _, _, F5, PySem.W.mg_of X G a5, F5.binds (ps := ps_hung_behind) (fun _ _ _ _ _ _ us hl => match us, hl with | [_, _], _ => rfl),
    _, _, F6, PySem.W.mg_of X G a6, F6.binds (ps := ps__law_cell_at) (fun _ _ _ _ _ _ us hl => match us, hl with | [_, _], _ => rfl),
    _, _, F7, PySem.W.mg_of X G a7, F7.binds (ps := ps__law_deck) (fun _ _ _ _ _ _ us hl => match us, hl with | [_], _ => rfl),
    _, _, F8, PySem.W.mg_of X G a8, F8.binds (ps := ps__law_take) (fun _ _ _ _ _ _ us hl => match us, hl with | [_, _], _ => rfl),
    _, _, F9, PySem.W.mg_of X G a9, F9.binds (ps := ps__law_is_covered) (fun _ _ _ _ _ _ us hl => match us, hl with | [_, _], _ => rfl),
    _, _, F10, PySem.W.mg_of X G a10, F10.binds (ps := ps__law_rest) (fun _ _ _ _ _ _ us hl => match us, hl with | [_, _, _, _], _ => rfl),
    _, _, F11, PySem.W.mg_of X G a11, F11.binds (ps := ps_need_both) (fun _ _ _ _ _ _ us hl => match us, hl with | [_, _], _ => rfl),
    _, _, F12, PySem.W.mg_of X G a12, F12.binds (ps := ps_covers_amid) (fun _ _ _ _ _ _ us hl => match us, hl with | [_, _, _, _], _ => rfl),
    _, _, F13, PySem.W.mg_of X G a13, F13.binds (ps := ps__law_letters) (fun _ _ _ _ _ _ us hl => match us, hl with | [_], _ => rfl),
    _, _, F14, PySem.W.mg_of X G a14, F14.binds (ps := ps__law_signs) (fun _ _ _ _ _ _ us hl => match us, hl with | [_, _, _], _ => rfl),
    _, _, F15, PySem.W.mg_of X G a15, F15.binds (ps := ps__law_by_trial) (fun _ _ _ _ _ _ us hl => match us, hl with | [_, _, _, _], _ => rfl),
    _, _, F16, PySem.W.mg_of X G a16, F16.binds (ps := ps__law_due) (fun _ _ _ _ _ _ us hl => match us, hl with | [_], _ => rfl),
    _, _, F17, PySem.W.mg_of X G a17, F17.binds (ps := ps_rest_behind) (fun _ _ _ _ _ _ us hl => match us, hl with | [_, _], _ => rfl),
    _, _, F18, PySem.W.mg_of X G a18, F18.binds (ps := ps_rest_ahead) (fun _ _ _ _ _ _ us hl => match us, hl with | [_, _], _ => rfl),
    _, _, F19, PySem.W.mg_of X G a19, F19.binds (ps := ps__law_word) (fun _ _ _ _ _ _ us hl => match us, hl with | [_, _, _], _ => rfl),
    _, _, F20, PySem.W.mg_of X G a20, F20.binds (ps := ps__law_overlaid) (fun _ _ _ _ _ _ us hl => match us, hl with | [_, _, _, _], _ => rfl),
    _, _, F21, PySem.W.mg_of X G a21, F21.binds (ps := ps__law_bent) (fun _ _ _ _ _ _ us hl => match us, hl with | [_, _, _], _ => rfl),
    _, _, F22, PySem.W.mg_of X G a22, F22.binds (ps := ps_beginnings_with_rest) (fun _ _ _ _ _ _ us hl => match us, hl with | [_], _ => rfl),
    _, _, F23, PySem.W.mg_of X G a23, F23.binds (ps := ps_ends_with_rest) (fun _ _ _ _ _ _ us hl => match us, hl with | [_], _ => rfl),
    _, _, F24, PySem.W.mg_of X G a24, F24.binds (ps := ps__law_pair) (fun _ _ _ _ _ _ us hl => match us, hl with | [_, _], _ => rfl),
    _, _, F25, PySem.W.mg_of X G a25, F25.binds (ps := ps__law_right) (fun _ _ _ _ _ _ us hl => match us, hl with | [_], _ => rfl),
    _, _, F26, PySem.W.mg_of X G a26, F26.binds (ps := ps_law) (fun _ _ _ _ _ _ us hl => match us, hl with | [_], _ => rfl),
    _, PySem.W.mg_of X G e0,
    PySem.W.mg_none_of X G z0,
    PySem.W.mg_none_of X G z1,
    PySem.W.mg_none_of X G z2,
    PySem.W.mg_none_of X G z3,
    PySem.W.mg_none_of X G z4,
    PySem.W.mg_none_of X G z5,
    PySem.W.mg_none_of X G z6,
    PySem.W.mg_none_of X G z7,
    cc0, ⟨xn0, PySem.W.mg_of X G xn0, xx0, xk0, xb0, xt0, xd0, xs0⟩,
    cc1, ⟨xn1, PySem.W.mg_of X G xn1, xx1, xk1, xb1, xt1, xd1, xs1⟩,
    cc2, ⟨xn2, PySem.W.mg_of X G xn2, xx2, xk2, xb2, xt2, xd2, xs2⟩⟩
  exact ⟨_, fun s v => .of_eq rfl, fun base _ _ => ok_law T⟩
end Lk18
open PySem PySem.W PyProof.Rows
set_option maxHeartbeats 0 in
theorem PySem.Challenge.cw_overlaid_k18_beginnings_and_ends_with_re_holds : PySem.Challenge.rw_overlaid_k18_beginnings_and_ends_with_re.Holds := by
  w_on; o_law; k_head; (case hw => w_witness2)
  k_fill
  refine L2.walk_of (l := PySem.Challenge.rw_overlaid_k18_beginnings_and_ends_with_re) (n := 63) (k := 6) (x := "script") (CX := fun _ => L2.CX0) (sp := fun w => MV.spLaw _ Ov.F_law_k18) rfl (by decide) rfl ⟨rfl, by decide, by decide⟩ (fun w h Y => PySem.W.kIn_of Y) ?F (fun _ _ a ns hl _ hS => ⟨rfl, a, ns, rfl, hS, Ov.true_law_k18 ns hl, fun _ => rfl⟩) (fun _ _ _ _ _ h => h)
  case F =>
    intro w mg fa h KX G hmg
    refine' Lk18.all_mk KX G hmg ?a0 ?l0 ?c0 ?k0 ?a1 ?l1 ?c1 ?k1 ?a2 ?l2 ?c2 ?k2 ?a3 ?l3 ?c3 ?k3 ?a4 ?l4 ?c4 ?k4 ?a5 ?l5 ?c5 ?k5 ?a6 ?l6 ?c6 ?k6 ?a7 ?l7 ?c7 ?k7 ?a8 ?l8 ?c8 ?k8 ?a9 ?l9 ?c9 ?k9 ?a10 ?l10 ?c10 ?k10 ?a11 ?l11 ?c11 ?k11 ?a12 ?l12 ?c12 ?k12 ?a13 ?l13 ?c13 ?k13 ?a14 ?l14 ?c14 ?k14 ?a15 ?l15 ?c15 ?k15 ?a16 ?l16 ?c16 ?k16 ?a17 ?l17 ?c17 ?k17 ?a18 ?l18 ?c18 ?k18 ?a19 ?l19 ?c19 ?k19 ?a20 ?l20 ?c20 ?k20 ?a21 ?l21 ?c21 ?k21 ?a22 ?l22 ?c22 ?k22 ?a23 ?l23 ?c23 ?k23 ?a24 ?l24 ?c24 ?k24 ?a25 ?l25 ?c25 ?k25 ?a26 ?l26 ?c26 ?k26 ?e0 ?z0 ?z1 ?z2 ?z3 ?z4 ?z5 ?z6 ?z7 ?xn0 ?xx0 ?xk0 ?xb0 ?xt0 ?xd0 ?xs0 ?xn1 ?xx1 ?xk1 ?xb1 ?xt1 ?xd1 ?xs1 ?xn2 ?xx2 ?xk2 ?xb2 ?xt2 ?xd2 ?xs2
    (case a0 => k_is); (case l0 => k_is); (case c0 => k_is); (case k0 => k_is); (case a1 => k_is); (case l1 => k_is); (case c1 => k_is); (case k1 => k_is); (case a2 => k_is); (case l2 => k_is); (case c2 => k_is); (case k2 => k_is); (case a3 => k_is); (case l3 => k_is); (case c3 => k_is); (case k3 => k_is); (case a4 => k_is); (case l4 => k_is); (case c4 => k_is); (case k4 => k_is); (case a5 => k_is); (case l5 => k_is); (case c5 => k_is); (case k5 => k_is); (case a6 => k_is); (case l6 => k_is); (case c6 => k_is); (case k6 => k_is); (case a7 => k_is); (case l7 => k_is); (case c7 => k_is); (case k7 => k_is); (case a8 => k_is); (case l8 => k_is); (case c8 => k_is); (case k8 => k_is); (case a9 => k_is); (case l9 => k_is); (case c9 => k_is); (case k9 => k_is); (case a10 => k_is); (case l10 => k_is); (case c10 => k_is); (case k10 => k_is); (case a11 => k_is); (case l11 => k_is); (case c11 => k_is); (case k11 => k_is); (case a12 => k_is); (case l12 => k_is); (case c12 => k_is); (case k12 => k_is); (case a13 => k_is); (case l13 => k_is); (case c13 => k_is); (case k13 => k_is); (case a14 => k_is); (case l14 => k_is); (case c14 => k_is); (case k14 => k_is); (case a15 => k_is); (case l15 => k_is); (case c15 => k_is); (case k15 => k_is); (case a16 => k_is); (case l16 => k_is); (case c16 => k_is); (case k16 => k_is); (case a17 => k_is); (case l17 => k_is); (case c17 => k_is); (case k17 => k_is); (case a18 => k_is); (case l18 => k_is); (case c18 => k_is); (case k18 => k_is); (case a19 => k_is); (case l19 => k_is); (case c19 => k_is); (case k19 => k_is); (case a20 => k_is); (case l20 => k_is); (case c20 => k_is); (case k20 => k_is); (case a21 => k_is); (case l21 => k_is); (case c21 => k_is); (case k21 => k_is); (case a22 => k_is); (case l22 => k_is); (case c22 => k_is); (case k22 => k_is); (case a23 => k_is); (case l23 => k_is); (case c23 => k_is); (case k23 => k_is); (case a24 => k_is); (case l24 => k_is); (case c24 => k_is); (case k24 => k_is); (case a25 => k_is); (case l25 => k_is); (case c25 => k_is); (case k25 => k_is); (case a26 => k_is); (case l26 => k_is); (case c26 => k_is); (case k26 => k_is); (case e0 => k_is); (case z0 => k_is); (case z1 => k_is); (case z2 => k_is); (case z3 => k_is); (case z4 => k_is); (case z5 => k_is); (case z6 => k_is); (case z7 => k_is); (case xn0 => k_is); (case xx0 => k_exc); (case xk0 => k_is); (case xb0 => k_is); (case xt0 => k_is); (case xd0 => k_is); (case xs0 => k_is); (case xn1 => k_is); (case xx1 => k_exc); (case xk1 => k_is); (case xb1 => k_is); (case xt1 => k_is); (case xd1 => k_is); (case xs1 => k_is); (case xn2 => k_is); (case xx2 => k_exc); (case xk2 => k_is); (case xb2 => k_is); (case xt2 => k_is); (case xd2 => k_is); (case xs2 => k_is)

