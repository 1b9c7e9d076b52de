import PyProof.Rows.All
import Wide.All
import OpenK.AllK
import Wide.FinOn
import HandS.ForMost
import HandS.ForExc
import HandS.ExcCtx
import HandS.HotCalls
import HandS.ExcIs
import HandS.ExcValue
import HandS.Style
import HandS.Wide
import HandS.Conv
import PyProof.ListStr
import HandS.Zip
import HandS.IsInst
import HandS.TryOnly
import HandS.Set
import HandS.SetFor
import HandS.SortInts
import HandS.More
import HandS.Dict
import HandS.Strs
import KE.DataMinMax
import KE.SortData
import HandS.SortKw
import HandS.Deep
import HandS.TupLe
import HandS.Replace
import KE.KDictWalk
import PyProof.SumAny
import KE.KDictPairs
import HandS.Text
import PySem.Challenge.RW_overlaid_k47_rows_of_no_form
set_option Elab.async false
set_option linter.all false
set_option maxRecDepth 100000
set_option maxHeartbeats 4000000
set_option autoImplicit false
namespace MV
open PySem L2
inductive D where
  | non
  | bl (b : Bool)
  | int (i : Int)
  | str (x : Str)
  | lst (xs : List D)
  | tup (xs : List D)
  | dic (kvs : List (Key × D))
  | dit (kvs : List (List Key × D))
  | exc (c : Str)
  deriving Inhabited
def D.toV : D → Option V
  | .non => some .non
  | .bl b => some (.bl b)
  | .int i => some (.int i)
  | .str x => some (.str x)
  | _ => none
def D.sc (d : D) : Bool := d.toV.isSome
def D.flat : D → Bool
  | .lst xs => xs.all D.sc
  | .tup xs => xs.all D.sc
  | d => d.sc
def Ex (H H' : Hp) : Prop := ∀ a o, H a = some o → H' a = some o
theorem Ex.refl (H : Hp) : Ex H H := fun _ _ h => h
theorem Ex.trans {H H1 H2 : Hp} (a : Ex H H1) (b : Ex H1 H2) : Ex H H2 := fun x o h => b x o (a x o h)
theorem Ex.new {H : Hp} {p : Addr} {o : HO} (h : H p = none) : Ex H (upd H p o) := fun a u e => by
  rw [upd_ne (ne_of_none e h)]; exact e
theorem Ex.dom {H H' : Hp} (e : Ex H H') {a : Addr} (h : H a ≠ none) : H' a ≠ none := by
  cases q : H a with
  | none => exact absurd q h
  | some o => rw [e a o q]; exact fun z => by cases z
theorem Ex.back {H H' : Hp} (e : Ex H H') {a : Addr} (h : H' a = none) : H a = none := by
  cases q : H a with
  | none => rfl
  | some o => rw [e a o q] at h; cases h
def nw (H H' : Hp) : Hp := fun a => match H a with | none => H' a | some _ => none
def grow (G H H' : Hp) : Hp := fun a => match H a with | none => H' a | some _ => G a
def rs (G B : Hp) : Hp := fun a => match B a with | none => G a | some _ => none
def rm (G : Hp) (w : List Addr) : Hp := fun a => if a ∈ w then none else G a
theorem grow_none {G H H' : Hp} {a : Addr} (h : H a = none) : grow G H H' a = H' a := by unfold grow; rw [h]
theorem grow_some {G H H' : Hp} {a : Addr} {o : HO} (h : H a = some o) : grow G H H' a = G a := by unfold grow; rw [h]
theorem rs_none {G B : Hp} {a : Addr} (h : B a = none) : rs G B a = G a := by unfold rs; rw [h]
theorem rs_some {G B : Hp} {a : Addr} {o : HO} (h : B a = some o) : rs G B a = none := by unfold rs; rw [h]
theorem nw_none {H H' : Hp} {a : Addr} (h : H a = none) : nw H H' a = H' a := by unfold nw; rw [h]
theorem nw_some {H H' : Hp} {a : Addr} {o : HO} (h : H a = some o) : nw H H' a = none := by unfold nw; rw [h]
theorem Ex.grow {G H H' : Hp} (e : Ex G H) (x : Ex H H') : Ex G (grow G H H') := fun a o h => by
  rw [grow_some (e a o h)]; exact h
theorem grow_sub {G H H' : Hp} (e : Ex G H) (x : Ex H H') : Ex (grow G H H') H' := fun a o h => by
  cases q : H a with
  | none => rw [grow_none q] at h; exact h
  | some u => rw [grow_some q] at h; exact x a o (e a o h)
theorem rs_sub (G B : Hp) : Ex (rs G B) G := fun a o h => by
  cases q : B a with
  | none => rw [rs_none q] at h; exact h
  | some u => rw [rs_some q] at h; cases h
theorem rs_mono {G G' B : Hp} (e : Ex G G') : Ex (rs G B) (rs G' B) := fun a o h => by
  cases q : B a with
  | none => rw [rs_none q] at h ⊢; exact e a o h
  | some u => rw [rs_some q] at h; cases h
theorem rm_sub (G : Hp) (w : List Addr) : Ex (rm G w) G := fun a o h => by
  unfold rm at h; split at h
  · cases h
  · exact h
def SqLx (K : PySem.W.Frag) : Bool → Hp → Addr → List V → Prop
  | true, G, a, xs => G a = some (.lst xs)
  | false, G, a, xs => SqL K G a xs
def SqTx (K : PySem.W.Frag) : Bool → Hp → Addr → List V → Prop
  | true, G, a, xs => G a = some (.tup xs)
  | false, G, a, xs => SqT K G a xs
def DqK : Bool → Hp → Addr → List (Key × V) → Prop
  | true, G, a, kvs => G a = some (.dK kvs)
  | false, G, a, kvs => ∃ o, G a = some (.frz o (.dK kvs))
def cvK (K : PySem.W.Frag) (c : Str) : Value := match PySem.W.nsIn K mainGlobals c with
  | some (some v) => v
  | _ => .none
def ExH (cls : Value) (a : Addr) : HO := .ext fun h => ∃ (oe : Obj) (vs : Array Value), h.get? a = some oe ∧ oe.cls = cls ∧ oe.dict = none ∧ oe.data = .fields vs
mutual
inductive Rp (K : PySem.W.Frag) (x : Bool) (G : Hp) : V → D → Prop
  | sc {v : V} {d : D} : d.toV = some v → Rp K x G v d
  | lst {a : Addr} {xs : List V} {ds : List D} : SqLx K x G a xs → RpL K x G xs ds → Rp K x G (.ref a) (.lst ds)
  | tup {a : Addr} {xs : List V} {ds : List D} : SqTx K x G a xs → RpL K x G xs ds → Rp K x G (.ref a) (.tup ds)
  | dic {a : Addr} {ks : List Key} {vs : List V} {ds : List D} : DqK x G a (ks.zip vs) → ks.length = vs.length → RpL K x G vs ds → Rp K x G (.ref a) (.dic (ks.zip ds))
  | dit {a : Addr} {ks : List (List Key)} {vs : List V} {ds : List D} : Rd G a (.dT (ks.zip vs)) → ks.length = vs.length → RpL K x G vs ds → Rp K x G (.ref a) (.dit (ks.zip ds))
  | exc {a : Addr} {c : Str} : G a = some (ExH (cvK K c) a) → Rp K x G (.ref a) (.exc c)
inductive RpL (K : PySem.W.Frag) (x : Bool) (G : Hp) : List V → List D → Prop
  | nil : RpL K x G [] []
  | cons {v : V} {vs : List V} {d : D} {ds : List D} : Rp K x G v d → RpL K x G vs ds → RpL K x G (v :: vs) (d :: ds)
end
theorem ex_sql {K : PySem.W.Frag} {H H' : Hp} {a : Addr} {xs : List V} (e : Ex H H') (h : SqL K H a xs) : SqL K H' a xs := by
  rcases h with (h | ⟨o, h⟩) | h
  · exact .inl (.inl (e _ _ h))
  · exact .inl (.inr ⟨o, e _ _ h⟩)
  · exact .inr h
theorem ex_sqt {K : PySem.W.Frag} {H H' : Hp} {a : Addr} {xs : List V} (e : Ex H H') (h : SqT K H a xs) : SqT K H' a xs := by
  rcases h with (h | ⟨o, h⟩) | h
  · exact .inl (.inl (e _ _ h))
  · exact .inl (.inr ⟨o, e _ _ h⟩)
  · exact .inr h
theorem SqLx.any {K : PySem.W.Frag} {H : Hp} {a : Addr} {xs : List V} {x : Bool} (h : SqLx K x H a xs) : SqL K H a xs := by
  cases x with
  | true => exact .inl (.inl h)
  | false => exact h
theorem SqTx.any {K : PySem.W.Frag} {H : Hp} {a : Addr} {xs : List V} {x : Bool} (h : SqTx K x H a xs) : SqT K H a xs := by
  cases x with
  | true => exact .inl (.inl h)
  | false => exact h
theorem SqLx.of {K : PySem.W.Frag} {H : Hp} {a : Addr} {xs : List V} {x : Bool} (h : H a = some (.lst xs)) : SqLx K x H a xs := by
  cases x with
  | true => exact h
  | false => exact .inl (.inl h)
theorem SqTx.of {K : PySem.W.Frag} {H : Hp} {a : Addr} {xs : List V} {x : Bool} (h : H a = some (.tup xs)) : SqTx K x H a xs := by
  cases x with
  | true => exact h
  | false => exact .inl (.inl h)
theorem ex_sqlx {K : PySem.W.Frag} {x y : Bool} {H H' : Hp} {a : Addr} {xs : List V} (e : Ex H H') (l : y = true → x = true) (h : SqLx K x H a xs) : SqLx K y H' a xs := by
  cases y with
  | true => rw [l rfl] at h; exact e _ _ h
  | false => exact ex_sql e h.any
theorem ex_sqtx {K : PySem.W.Frag} {x y : Bool} {H H' : Hp} {a : Addr} {xs : List V} (e : Ex H H') (l : y = true → x = true) (h : SqTx K x H a xs) : SqTx K y H' a xs := by
  cases y with
  | true => rw [l rfl] at h; exact e _ _ h
  | false => exact ex_sqt e h.any
theorem ex_dqk {x : Bool} {H H' : Hp} {a : Addr} {kvs : List (Key × V)} (e : Ex H H') (h : DqK x H a kvs) : DqK x H' a kvs := by
  cases x with
  | true => exact e _ _ h
  | false => obtain ⟨o, h⟩ := h; exact ⟨o, e _ _ h⟩
theorem rd_mono {H H' : Hp} {a : Addr} {u : HO} (e : Ex H H') (h : Rd H a u) : Rd H' a u := h.imp (e _ _) fun ⟨o, q⟩ => ⟨o, e _ _ q⟩
mutual
theorem Rp.to {K : PySem.W.Frag} {x : Bool} {G G' : Hp} (e : Ex G G') : ∀ {v : V} {d : D}, Rp K x G v d → Rp K x G' v d
  | _, _, .sc h => .sc h
  | _, _, .lst h r => .lst (ex_sqlx e id h) (RpL.to e r)
  | _, _, .tup h r => .tup (ex_sqtx e id h) (RpL.to e r)
  | _, _, .dic h n r => .dic (ex_dqk e h) n (RpL.to e r)
  | _, _, .dit h n r => .dit (rd_mono e h) n (RpL.to e r)
  | _, _, .exc h => .exc (e _ _ h)
theorem RpL.to {K : PySem.W.Frag} {x : Bool} {G G' : Hp} (e : Ex G G') : ∀ {vs : List V} {ds : List D}, RpL K x G vs ds → RpL K x G' vs ds
  | _, _, .nil => .nil
  | _, _, .cons h r => .cons (Rp.to e h) (RpL.to e r)
end
section
variable {K : PySem.W.Frag} {x : Bool} {G : Hp}
theorem Rp.mono {G' : Hp} (e : Ex G G') {v : V} {d : D} (h : Rp K x G v d) : Rp K x G' v d := h.to e
theorem RpL.mono {G' : Hp} (e : Ex G G') {v : List V} {d : List D} (h : RpL K x G v d) : RpL K x G' v d := h.to e
theorem RpL.length : ∀ {vs : List V} {ds : List D}, RpL K x G vs ds → vs.length = ds.length
  | _, _, .nil => rfl
  | _, _, .cons _ r => by rw [List.length_cons, List.length_cons, r.length]
theorem RpL.get : ∀ {vs : List V} {ds : List D} {i : Nat} {d : D}, RpL K x G vs ds → ds[i]? = some d → ∃ v, vs[i]? = some v ∧ Rp K x G v d
  | _, _, _, _, .nil, h => by simp at h
  | _, _, 0, _, .cons h _, e => by simp at e; subst e; exact ⟨_, rfl, h⟩
  | _, _, i + 1, d, .cons _ r, e => by
    obtain ⟨v, h1, h2⟩ := RpL.get (i := i) (d := d) r (by simpa using e)
    exact ⟨v, by simpa using h1, h2⟩
theorem RpL.getV : ∀ {vs : List V} {ds : List D} {i : Nat} {v : V}, RpL K x G vs ds → vs[i]? = some v → ∃ d, ds[i]? = some d ∧ Rp K x G v d
  | _, _, _, _, .nil, h => by simp at h
  | _, _, 0, _, .cons h _, e => by simp at e; subst e; exact ⟨_, rfl, h⟩
  | _, _, i + 1, d, .cons _ r, e => by
    obtain ⟨v, h1, h2⟩ := RpL.getV (i := i) (v := d) r (by simpa using e)
    exact ⟨v, by simpa using h1, h2⟩
theorem RpL.append : ∀ {vs ws : List V} {ds es : List D}, RpL K x G vs ds → RpL K x G ws es → RpL K x G (vs ++ ws) (ds ++ es)
  | _, _, _, _, .nil, h => h
  | _, _, _, _, .cons h r, h2 => .cons h (RpL.append r h2)
theorem RpL.take : ∀ {vs : List V} {ds : List D} (n : Nat), RpL K x G vs ds → RpL K x G (vs.take n) (ds.take n)
  | _, _, 0, _ => .nil
  | _, _, _ + 1, .nil => .nil
  | _, _, n + 1, .cons h r => .cons h (RpL.take n r)
theorem RpL.drop : ∀ {vs : List V} {ds : List D} (n : Nat), RpL K x G vs ds → RpL K x G (vs.drop n) (ds.drop n)
  | _, _, 0, r => r
  | _, _, _ + 1, .nil => .nil
  | _, _, n + 1, .cons _ r => RpL.drop n r
theorem RpL.rev {vs : List V} {ds : List D} (h : RpL K x G vs ds) : RpL K x G vs.reverse ds.reverse := by
  induction vs generalizing ds with
  | nil => cases h; exact .nil
  | cons v vs ih => cases h with | cons h r => rw [List.reverse_cons, List.reverse_cons]; exact (ih r).append (.cons h .nil)
theorem RpL.set : ∀ {vs : List V} {ds : List D} {v : V} {d : D} (i : Nat), RpL K x G vs ds → Rp K x G v d → RpL K x G (vs.set i v) (ds.set i d)
  | _, _, _, _, _, .nil, _ => .nil
  | _, _, _, _, 0, .cons _ t, r => .cons r t
  | _, _, _, _, i + 1, .cons q t, r => .cons q (RpL.set i t r)
theorem Rp.sc_any {v : V} {d : D} (h : Rp K x G v d) (hs : d.sc = true) (y : Bool) (G' : Hp) : Rp K y G' v d := by
  cases h with
  | sc h => exact .sc h
  | lst _ _ => cases hs
  | tup _ _ => cases hs
  | dic _ _ _ => cases hs
  | dit _ _ _ => cases hs
  | exc _ => cases hs
theorem Rp.toV {v : V} {d : D} (h : Rp K x G v d) (hs : d.sc = true) : d.toV = some v := by
  cases h with
  | sc h => exact h
  | lst _ _ => cases hs
  | tup _ _ => cases hs
  | dic _ _ _ => cases hs
  | dit _ _ _ => cases hs
  | exc _ => cases hs
theorem RpL.sc_any : ∀ {vs : List V} {ds : List D}, RpL K x G vs ds → ds.all D.sc = true → ∀ (y : Bool) (G' : Hp), RpL K y G' vs ds
  | _, _, .nil, _, _, _ => .nil
  | _, _, .cons h r, hs, y, G' => by
    rw [List.all_cons, Bool.and_eq_true] at hs
    exact .cons (h.sc_any hs.1 y G') (RpL.sc_any r hs.2 y G')
theorem Rp.int_inv {v : V} {i : Int} (h : Rp K x G v (.int i)) : v = .int i := by
  have := h.toV rfl; exact (Option.some.inj this).symm
theorem Rp.bl_inv {v : V} {b : Bool} (h : Rp K x G v (.bl b)) : v = .bl b := by
  have := h.toV rfl; exact (Option.some.inj this).symm
theorem Rp.str_inv {v : V} {z : Str} (h : Rp K x G v (.str z)) : v = .str z := by
  have := h.toV rfl; exact (Option.some.inj this).symm
theorem Rp.non_inv {v : V} (h : Rp K x G v .non) : v = .non := by
  have := h.toV rfl; exact (Option.some.inj this).symm
theorem Rp.lst_inv {v : V} {ds : List D} (h : Rp K x G v (.lst ds)) : ∃ a xs, v = .ref a ∧ SqLx K x G a xs ∧ RpL K x G xs ds := by
  cases h with
  | sc h => cases h
  | lst h r => exact ⟨_, _, rfl, h, r⟩
theorem Rp.tup_inv {v : V} {ds : List D} (h : Rp K x G v (.tup ds)) : ∃ a xs, v = .ref a ∧ SqTx K x G a xs ∧ RpL K x G xs ds := by
  cases h with
  | sc h => cases h
  | tup h r => exact ⟨_, _, rfl, h, r⟩
theorem Rp.int (i : Int) : Rp K x G (.int i) (.int i) := .sc rfl
theorem Rp.bl (b : Bool) : Rp K x G (.bl b) (.bl b) := .sc rfl
theorem Rp.str (z : Str) : Rp K x G (.str z) (.str z) := .sc rfl
theorem Rp.non : Rp K x G .non .non := .sc rfl
end
mutual
inductive Own (K : PySem.W.Frag) (Hn H : Hp) : List Addr → V → D → Prop
  | leaf {v : V} {d : D} : Rp K true Hn v d → Own K Hn H [] v d
  | lst {p : Addr} {F : List Addr} {xs : List V} {ds : List D} : H p = some (.lst xs) → OwnL K Hn H F xs ds → Own K Hn H (p :: F) (.ref p) (.lst ds)
  | tup {p : Addr} {F : List Addr} {xs : List V} {ds : List D} : H p = some (.tup xs) → OwnL K Hn H F xs ds → Own K Hn H (p :: F) (.ref p) (.tup ds)
  | dic {p : Addr} {F : List Addr} {ks : List Key} {vs : List V} {ds : List D} : H p = some (.dK (ks.zip vs)) → ks.length = vs.length → OwnL K Hn H F vs ds → Own K Hn H (p :: F) (.ref p) (.dic (ks.zip ds))
  | dit {p : Addr} {F : List Addr} {ks : List (List Key)} {vs : List V} {ds : List D} : H p = some (.dT (ks.zip vs)) → ks.length = vs.length → OwnL K Hn H F vs ds → Own K Hn H (p :: F) (.ref p) (.dit (ks.zip ds))
inductive OwnL (K : PySem.W.Frag) (Hn H : Hp) : List Addr → List V → List D → Prop
  | nil : OwnL K Hn H [] [] []
  | cons {F F' : List Addr} {v : V} {vs : List V} {d : D} {ds : List D} : Own K Hn H F v d → OwnL K Hn H F' vs ds → OwnL K Hn H (F ++ F') (v :: vs) (d :: ds)
end
section
variable {K : PySem.W.Frag} {Hn Hn' H H' : Hp}
mutual
theorem Own.keep (en : Ex Hn Hn') : ∀ {F : List Addr} {v : V} {d : D}, Own K Hn H F v d → (∀ a ∈ F, ∀ o, H a = some o → H' a = some o) → Own K Hn' H' F v d
  | _, _, _, .leaf h, _ => .leaf (h.mono en)
  | _, _, _, .lst h r, e => .lst (e _ List.mem_cons_self _ h) (OwnL.keep en r fun a m => e a (List.mem_cons_of_mem _ m))
  | _, _, _, .tup h r, e => .tup (e _ List.mem_cons_self _ h) (OwnL.keep en r fun a m => e a (List.mem_cons_of_mem _ m))
  | _, _, _, .dic h l r, e => .dic (e _ List.mem_cons_self _ h) l (OwnL.keep en r fun a m => e a (List.mem_cons_of_mem _ m))
  | _, _, _, .dit h l r, e => .dit (e _ List.mem_cons_self _ h) l (OwnL.keep en r fun a m => e a (List.mem_cons_of_mem _ m))
theorem OwnL.keep (en : Ex Hn Hn') : ∀ {F : List Addr} {vs : List V} {ds : List D}, OwnL K Hn H F vs ds → (∀ a ∈ F, ∀ o, H a = some o → H' a = some o) → OwnL K Hn' H' F vs ds
  | _, _, _, .nil, _ => .nil
  | _, _, _, .cons h r, e => .cons (Own.keep en h fun a m => e a (List.mem_append_left _ m)) (OwnL.keep en r fun a m => e a (List.mem_append_right _ m))
end
theorem Own.mono (en : Ex Hn Hn') (e : Ex H H') {F : List Addr} {v : V} {d : D} (h : Own K Hn H F v d) : Own K Hn' H' F v d := h.keep en fun a _ o q => e a o q
mutual
theorem Own.dom : ∀ {F : List Addr} {v : V} {d : D}, Own K Hn H F v d → ∀ a ∈ F, H a ≠ none
  | _, _, _, .leaf _, a, m => by cases m
  | _, _, _, .lst h r, a, m => by
    rcases List.mem_cons.mp m with rfl | m
    · rw [h]; exact fun z => by cases z
    · exact OwnL.dom r a m
  | _, _, _, .tup h r, a, m => by
    rcases List.mem_cons.mp m with rfl | m
    · rw [h]; exact fun z => by cases z
    · exact OwnL.dom r a m
  | _, _, _, .dic h l r, a, m => by
    rcases List.mem_cons.mp m with rfl | m
    · rw [h]; exact fun z => by cases z
    · exact OwnL.dom r a m
  | _, _, _, .dit h l r, a, m => by
    rcases List.mem_cons.mp m with rfl | m
    · rw [h]; exact fun z => by cases z
    · exact OwnL.dom r a m
theorem OwnL.dom : ∀ {F : List Addr} {vs : List V} {ds : List D}, OwnL K Hn H F vs ds → ∀ a ∈ F, H a ≠ none
  | _, _, _, .nil, a, m => by cases m
  | _, _, _, .cons h r, a, m => by
    rcases List.mem_append.mp m with m | m
    · exact Own.dom h a m
    · exact OwnL.dom r a m
end
mutual
/-- what is owned is read, in any heap that holds its objects -/
theorem Own.rp {G : Hp} (en : Ex Hn G) : ∀ {F : List Addr} {v : V} {d : D}, Own K Hn H F v d → (∀ a ∈ F, ∀ o, H a = some o → G a = some o) → Rp K true G v d
  | _, _, _, .leaf h, _ => h.mono en
  | _, _, _, .lst h r, e => .lst (e _ List.mem_cons_self _ h) (OwnL.rp en r fun a m => e a (List.mem_cons_of_mem _ m))
  | _, _, _, .tup h r, e => .tup (e _ List.mem_cons_self _ h) (OwnL.rp en r fun a m => e a (List.mem_cons_of_mem _ m))
  | _, _, _, .dic h l r, e => .dic (e _ List.mem_cons_self _ h) l (OwnL.rp en r fun a m => e a (List.mem_cons_of_mem _ m))
  | _, _, _, .dit h l r, e => .dit (.inl (e _ List.mem_cons_self _ h)) l (OwnL.rp en r fun a m => e a (List.mem_cons_of_mem _ m))
theorem OwnL.rp {G : Hp} (en : Ex Hn G) : ∀ {F : List Addr} {vs : List V} {ds : List D}, OwnL K Hn H F vs ds → (∀ a ∈ F, ∀ o, H a = some o → G a = some o) → RpL K true G vs ds
  | _, _, _, .nil, _ => .nil
  | _, _, _, .cons h r, e => .cons (Own.rp en h fun a m => e a (List.mem_append_left _ m)) (OwnL.rp en r fun a m => e a (List.mem_append_right _ m))
end
theorem ownL_of : ∀ {vs : List V} {ds : List D}, RpL K true Hn vs ds → OwnL K Hn H [] vs ds
  | _, _, .nil => .nil
  | _, _, .cons h r => OwnL.cons (F := []) (.leaf h) (ownL_of r)
theorem OwnL.leafs : ∀ {F : List Addr} {vs : List V} {ds : List D}, OwnL K Hn H F vs ds → F = [] → RpL K true Hn vs ds
  | _, _, _, .nil, _ => .nil
  | _, _, _, .cons (F := F1) h r, e => by
    obtain ⟨e1, e2⟩ := List.append_eq_nil_iff.mp e
    subst e1
    cases h with
    | leaf h => exact .cons h (OwnL.leafs r e2)
end
end MV
namespace MV
open PySem L2
abbrev PEnv := List (Option D)
inductive Res (α : Type) where
  | ok (a : α) (e : PEnv)
  | ex (c : Str) (e : PEnv)
  | stuck
abbrev M (α : Type) := PEnv → Res α
def bnd {α β : Type} (m : M α) (k : α → M β) : M β := fun e => match m e with
  | .ok a e' => k a e'
  | .ex c e' => .ex c e'
  | .stuck => .stuck
def ret {α : Type} (a : α) : M α := fun e => .ok a e
def lift {α : Type} (o : Option α) : M α := fun e => match o with
  | some a => .ok a e
  | none => .stuck
def fail {α : Type} : M α := fun _ => .stuck
inductive FR where
  | ok (d : D) (io : D)
  | ex (c : Str) (io : D)
  | stuck
inductive Fl where
  | nx
  | rt (d : D)
  | bk
  | ct
def envOf (n : Nat) (ds : List D) : PEnv := ds.map some ++ List.replicate (n - ds.length) none
def ioOf (e : PEnv) : D := match e with
  | some d :: _ => d
  | _ => .non
def runF (n : Nat) (g : M Fl) : List D → FR := fun ds => match g (envOf n ds) with
  | .ok (.rt d) e => .ok d (ioOf e)
  | .ok .nx e => .ok .non (ioOf e)
  | .ex c e => .ex c (ioOf e)
  | _ => .stuck
inductive Kd where
  | S | N | M | W | Q | P
  deriving DecidableEq
structure Cf where
  K : PySem.W.Frag
  kd : Nat → Kd
  cv : Str → Value
  ob : Option Addr
structure Rs where
  H0 : Hp
  io : Option Addr
def emp : Hp := fun _ => none
def TH (G : Hp) : Hp := fun a => match G a with
  | some (.tup xs) => some (.tup xs)
  | _ => none
theorem th_some {G : Hp} {a : Addr} {o : HO} (h : TH G a = some o) : ∃ xs, o = .tup xs ∧ G a = some (.tup xs) := by
  unfold TH at h
  split at h
  · rename_i xs q; cases h; exact ⟨xs, rfl, q⟩
  · cases h
theorem th_tup {G : Hp} {a : Addr} {xs : List V} (h : G a = some (.tup xs)) : TH G a = some (.tup xs) := by unfold TH; rw [h]
theorem th_mono {G G' : Hp} (e : Ex G G') : Ex (TH G) (TH G') := fun a o h => by
  obtain ⟨xs, rfl, q⟩ := th_some h
  exact th_tup (e _ _ q)
theorem th_sub {G : Hp} : Ex (TH G) G := fun a o h => by
  obtain ⟨xs, rfl, q⟩ := th_some h
  exact q
abbrev dkF (x y : V) : List (Str × V) := [(Str.ofString "text", x), (Str.ofString "word", y)]
def DeskR (K : PySem.W.Frag) (C : Addr) (R : Rs) (Hs H : Hp) (F : List Addr) (v : V) (d : D) : Prop := ∃ p dx v1 v2 t w, v = .ref p ∧ d = .tup [t, w] ∧ F = [p] ∧ H p = some (.ins C dx (dkF v1 v2)) ∧ t.flat = true ∧ w.flat = true ∧ Rp K true Hs v1 t ∧ Rp K true Hs v2 w ∧
  (R.io = some p → ∃ u1 u2, R.H0 p = some (.ins C dx (dkF u1 u2)) ∧ (v1 = u1 ∨ Rp K true (rs Hs R.H0) v1 t) ∧ (v2 = u2 ∨ Rp K true (rs Hs R.H0) v2 w))
theorem DeskR.map {K : PySem.W.Frag} {C : Addr} {R : Rs} {Hs H Hs' H' : Hp} {F : List Addr} {v : V} {d : D} (h : DeskR K C R Hs H F v d) (f : ∀ v d, Rp K true Hs v d → Rp K true Hs' v d) (g : ∀ v d, Rp K true (rs Hs R.H0) v d → Rp K true (rs Hs' R.H0) v d) (k : ∀ a ∈ F, ∀ o, H a = some o → H' a = some o) : DeskR K C R Hs' H' F v d := by
  obtain ⟨p, dx, v1, v2, t, w, e1, e2, e3, e4, e5, e6, e7, e8, e9⟩ := h
  refine ⟨p, dx, v1, v2, t, w, e1, e2, e3, k p (by rw [e3]; exact List.mem_singleton.mpr rfl) _ e4, e5, e6, f _ _ e7, f _ _ e8, fun z => ?_⟩
  obtain ⟨u1, u2, a1, a2, a3⟩ := e9 z
  exact ⟨u1, u2, a1, a2.imp id (g _ _), a3.imp id (g _ _)⟩
theorem DeskR.mono {K : PySem.W.Frag} {C : Addr} {R : Rs} {Hs H Hs' H' : Hp} {F : List Addr} {v : V} {d : D} (h : DeskR K C R Hs H F v d) (e : Ex Hs Hs') (k : ∀ a ∈ F, ∀ o, H a = some o → H' a = some o) : DeskR K C R Hs' H' F v d :=
  h.map (fun _ _ q => q.mono e) (fun _ _ q => q.mono (rs_mono e)) k
def SlotR (K : PySem.W.Frag) (ob : Option Addr) (R : Rs) (Hs H : Hp) (F : List Addr) : Kd → V → D → Prop
  | .Q, v, d => Rp K false Hs v d
  | .S, v, d => Rp K true Hs v d
  | .P, v, d => Own K (TH (rs Hs R.H0)) H F v d
  | .N, v, d => Rp K true (rs Hs R.H0) v d
  | .M, v, d => Own K (rs Hs R.H0) H F v d ∧ (F = [] → d.sc = true) ∧ F.length ≤ 1
  | .W, v, d => (∃ p xs ds, v = .ref p ∧ d = .lst ds ∧ F = [p] ∧ H p = some (.lst xs) ∧ ds.all D.sc = true ∧ RpL K true emp xs ds) ∨ ∃ C, ob = some C ∧ DeskR K C R Hs H F v d
structure Rel (cf : Cf) (R : Rs) (Hs : Hp) (env : PEnv) (σ : L2.St) (H : Hp) (F : Nat → List Addr) (wf : List Addr) : Prop where
  len : env.length = σ.length
  exs : Ex Hs H
  ex0 : ∀ a o, R.H0 a = some o → R.io ≠ some a → Hs a = some o
  dom0 : ∀ a, R.H0 a ≠ none → H a ≠ none
  slot : ∀ i d, env[i]? = some (some d) → ∃ v, σ[i]? = some (some v) ∧ SlotR cf.K cf.ob R Hs H (F i) (cf.kd i) v d
  nod : ∀ i, (F i).Nodup
  dis : ∀ i j, i ≠ j → ∀ a, a ∈ F i → a ∉ F j
  fdom : ∀ i a, a ∈ F i → H a ≠ none
  uns : ∀ i a, a ∈ F i → Hs a = none
  new : ∀ i a, a ∈ F i → R.io = some a ∨ R.H0 a = none
  volw : ∀ i, cf.kd i = .W → ∀ a, a ∈ F i → a ∈ wf
  volb : ∀ i, cf.kd i ≠ .W → ∀ a, a ∈ F i → a ∉ wf
  wdom : ∀ a, a ∈ wf → H a ≠ none ∧ Hs a = none
  ior : ∀ p, R.io = some p → σ[0]? = some (some (.ref p)) ∧ F 0 = [p] ∧ cf.kd 0 = .W ∧ ∃ d, env[0]? = some (some d)
inductive Cls where
  | V | N | S | L | B
def rg (c : Cls) (H0 Hs Hst H : Hp) (wf : List Addr) : Hp := match c with
  | .V => rs Hs Hst
  | .N => rs Hs H0
  | .S => Hs
  | .L => rs (rm H wf) H0
  | .B => rm H wf
structure Stp (cf : Cf) (wf : List Addr) (env : PEnv) (Hs H : Hp) (env' : PEnv) (Hs' H' : Hp) : Prop where
  dom : ∀ a, H a ≠ none → H' a ≠ none
  ex : Ex Hs Hs'
  keep : ∀ a o, a ∉ wf → H a = some o → H' a = some o
  same : ∀ a, H a ≠ none → Hs' a = Hs a
  kp : ∀ i, cf.kd i ≠ .W → env'[i]? = env[i]?
section
variable {cf : Cf} {wf : List Addr} {env env1 env2 : PEnv} {Hs H Hs1 H1 Hs2 H2 H' : Hp}
theorem Stp.refl : Stp cf wf env Hs H env Hs H := ⟨fun _ h => h, Ex.refl _, fun _ _ _ h => h, fun _ _ => rfl, fun _ _ => rfl⟩
theorem Stp.trans (a : Stp cf wf env Hs H env1 Hs1 H1) (b : Stp cf wf env1 Hs1 H1 env2 Hs2 H2) : Stp cf wf env Hs H env2 Hs2 H2 :=
  ⟨fun x h => b.dom x (a.dom x h), a.ex.trans b.ex, fun x o hw h => b.keep x o hw (a.keep x o hw h), fun x h => (b.same x (a.dom x h)).trans (a.same x h), fun i h => (b.kp i h).trans (a.kp i h)⟩
theorem Stp.grow (e : Ex Hs H) (x : Ex H H') : Stp cf wf env Hs H env (grow Hs H H') H' :=
  ⟨fun a h => x.dom h, Ex.grow e x, fun a o _ h => x a o h, fun a h => by
    cases q : H a with
    | none => exact absurd q h
    | some o => exact grow_some q, fun _ _ => rfl⟩
end
theorem rg_step {c : Cls} {H0 Hs Hst H Hs' H' : Hp} {wf : List Addr} {cf : Cf} {env env' : PEnv} (s : Stp cf wf env Hs H env' Hs' H') : Ex (rg c H0 Hs Hst H wf) (rg c H0 Hs' Hst H' wf) := by
  have hb : Ex (rm H wf) (rm H' wf) := fun a o h => by
    unfold rm at h ⊢
    split at h
    · cases h
    · rename_i hw; rw [if_neg hw]; exact s.keep a o hw h
  cases c with
  | V => exact rs_mono s.ex
  | N => exact rs_mono s.ex
  | S => exact s.ex
  | L => exact rs_mono hb
  | B => exact hb
theorem rg_start {c : Cls} {H0 Hs Hst Hst' H : Hp} {wf : List Addr} (d : ∀ a, Hst a ≠ none → Hst' a ≠ none) : Ex (rg c H0 Hs Hst' H wf) (rg c H0 Hs Hst H wf) := by
  cases c with
  | V =>
    intro a o h
    have h : rs Hs Hst' a = some o := h
    show rs Hs Hst a = some o
    cases q : Hst a with
    | none =>
      rw [rs_none q]
      exact rs_sub _ _ a o h
    | some u =>
      have : Hst' a ≠ none := d a (by rw [q]; exact fun z => by cases z)
      cases q' : Hst' a with
      | none => exact absurd q' this
      | some u' => rw [rs_some q'] at h; cases h
  | N => exact Ex.refl _
  | S => exact Ex.refl _
  | L => exact Ex.refl _
  | B => exact Ex.refl _
theorem rg_sub {c : Cls} {H0 Hs Hst H : Hp} {wf : List Addr} (e : Ex Hs H) : Ex (rg c H0 Hs Hst H wf) H := by
  cases c with
  | V => exact (rs_sub _ _).trans e
  | N => exact (rs_sub _ _).trans e
  | S => exact e
  | L => exact (rs_sub _ _).trans (rm_sub _ _)
  | B => exact rm_sub _ _
theorem rg_grow {c : Cls} {H0 Hs Hst H H' : Hp} {wf : List Addr} (d0 : ∀ a, H0 a ≠ none → H a ≠ none) (ds : ∀ a, Hst a ≠ none → H a ≠ none) (dw : ∀ a, a ∈ wf → H a ≠ none) (es : Ex Hs H) (x : Ex H H') :
    Ex (grow (rg c H0 Hs Hst H wf) H H') (rg c H0 (grow Hs H H') Hst H' wf) := by
  intro a o h
  cases q : H a with
  | none =>
    rw [grow_none q] at h
    have h0 : H0 a = none := by
      cases z : H0 a with
      | none => rfl
      | some u => exact absurd q (d0 a (by rw [z]; exact fun y => by cases y))
    have hs : Hst a = none := by
      cases z : Hst a with
      | none => rfl
      | some u => exact absurd q (ds a (by rw [z]; exact fun y => by cases y))
    have hw : a ∉ wf := fun m => dw a m q
    cases c with
    | V => show rs (grow Hs H H') Hst a = some o; rw [rs_none hs, grow_none q]; exact h
    | N => show rs (grow Hs H H') H0 a = some o; rw [rs_none h0, grow_none q]; exact h
    | S => show grow Hs H H' a = some o; rw [grow_none q]; exact h
    | L => show rs (rm H' wf) H0 a = some o; rw [rs_none h0]; unfold rm; rw [if_neg hw]; exact h
    | B => show rm H' wf a = some o; unfold rm; rw [if_neg hw]; exact h
  | some u =>
    rw [grow_some q] at h
    exact rg_step (cf := ⟨default, fun _ => .S, fun _ => .none, none⟩) (env := []) (Stp.grow es x) a o h
inductive Cls.Le : Cls → Cls → Prop
  | rfl (c) : Cls.Le c c
  | vn : Cls.Le .V .N
  | vs : Cls.Le .V .S
  | vl : Cls.Le .V .L
  | vb : Cls.Le .V .B
  | ns : Cls.Le .N .S
  | nl : Cls.Le .N .L
  | nb : Cls.Le .N .B
  | sb : Cls.Le .S .B
  | lb : Cls.Le .L .B
theorem rg_le {c c' : Cls} (l : Cls.Le c c') {H0 Hs Hst H : Hp} {wf : List Addr} (es : Ex Hs H) (d0 : ∀ a, H0 a ≠ none → Hst a ≠ none) (w : ∀ a, a ∈ wf → Hs a = none) : Ex (rg c H0 Hs Hst H wf) (rg c' H0 Hs Hst H wf) := by
  have sb : Ex Hs (rm H wf) := fun a o h => by
    unfold rm
    rw [if_neg (fun m => by rw [w a m] at h; cases h)]
    exact es a o h
  have vn : Ex (rs Hs Hst) (rs Hs H0) := fun a o h => by
    cases q : H0 a with
    | none => rw [rs_none q]; exact rs_sub _ _ a o h
    | some u =>
      have : Hst a ≠ none := d0 a (by rw [q]; exact fun y => by cases y)
      cases q' : Hst a with
      | none => exact absurd q' this
      | some u' => rw [rs_some q'] at h; cases h
  have nl : Ex (rs Hs H0) (rs (rm H wf) H0) := rs_mono sb
  cases l with
  | rfl => exact Ex.refl _
  | vn => exact vn
  | vs => exact vn.trans (rs_sub _ _)
  | vl => exact vn.trans nl
  | vb => exact (vn.trans nl).trans (rs_sub _ _)
  | ns => exact rs_sub _ _
  | nl => exact nl
  | nb => exact nl.trans (rs_sub _ _)
  | sb => exact sb
  | lb => exact rs_sub _ _
section
variable {cf : Cf} {R : Rs} {Hs H H' : Hp} {env : PEnv} {σ : L2.St} {F : Nat → List Addr} {wf : List Addr}
theorem Rel.grow (r : Rel cf R Hs env σ H F wf) (x : Ex H H') : Rel cf R (grow Hs H H') env σ H' F wf where
  len := r.len
  exs := grow_sub r.exs x
  ex0 := fun a o h n => (Ex.grow r.exs x) a o (r.ex0 a o h n)
  dom0 := fun a h => x.dom (r.dom0 a h)
  slot := fun i d h => by
    obtain ⟨v, h1, h2⟩ := r.slot i d h
    refine ⟨v, h1, ?_⟩
    cases q : cf.kd i with
    | S => rw [q] at h2; exact Rp.mono (Ex.grow r.exs x) h2
    | Q => rw [q] at h2; exact Rp.mono (Ex.grow r.exs x) h2
    | P => rw [q] at h2; exact Own.mono (th_mono (rs_mono (Ex.grow r.exs x))) x h2
    | N => rw [q] at h2; exact Rp.mono (rs_mono (Ex.grow r.exs x)) h2
    | M => rw [q] at h2; exact ⟨Own.mono (rs_mono (Ex.grow r.exs x)) x h2.1, h2.2⟩
    | W =>
      rw [q] at h2
      rcases h2 with ⟨p, xs, ds, e1, e2, e3, e4, e5⟩ | ⟨C, hC, h2⟩
      · exact .inl ⟨p, xs, ds, e1, e2, e3, x _ _ e4, e5⟩
      · exact .inr ⟨C, hC, h2.mono (Ex.grow r.exs x) fun a _ o h => x a o h⟩
  nod := r.nod
  dis := r.dis
  fdom := fun i a h => x.dom (r.fdom i a h)
  uns := fun i a h => by
    have hd := r.fdom i a h
    cases q : H a with
    | none => exact absurd q hd
    | some o => rw [grow_some q]; exact r.uns i a h
  new := r.new
  volw := r.volw
  volb := r.volb
  wdom := fun a h => by
    obtain ⟨h1, h2⟩ := r.wdom a h
    refine ⟨x.dom h1, ?_⟩
    cases q : H a with
    | none => exact absurd q h1
    | some o => rw [grow_some q]; exact h2
  ior := r.ior
end
def Nr (K : PySem.W.Frag) (n : Bool) (Hst Hs' : Hp) (v : V) (d : D) : Prop := n = true → d.flat = true → Rp K true (rs Hs' Hst) v d
def Sd (cf : Cf) (W : WX) (c : Cls) (n : Bool) (te : TE) (f : M D) : Prop :=
  ∀ (R : Rs) (Hs : Hp) (env : PEnv) (σ : L2.St) (H : Hp) (F : Nat → List Addr) (wf : List Addr), Rel cf R Hs env σ H F wf → ∀ Q : VK,
    match f env with
    | .ok d env' => (∀ v Hs' H', Stp cf wf env Hs H env' Hs' H' → Rel cf R Hs' env' σ H' F wf → Rp cf.K true (rg c R.H0 Hs' H H' wf) v d → Nr cf.K n H Hs' v d → Q v H') → te σ H Q
    | .ex x env' => (∀ Hs' H', Stp cf wf env Hs H env' Hs' H' → Rel cf R Hs' env' σ H' F wf → W (cf.cv x) none σ H') → te σ H Q
    | .stuck => True
def SdT (cf : Cf) (W : WX) (tt : TT) (f : M Bool) : Prop :=
  ∀ (R : Rs) (Hs : Hp) (env : PEnv) (σ : L2.St) (H : Hp) (F : Nat → List Addr) (wf : List Addr), Rel cf R Hs env σ H F wf → ∀ Q : Bool → Hp → Prop,
    match f env with
    | .ok b env' => (∀ Hs' H', Stp cf wf env Hs H env' Hs' H' → Rel cf R Hs' env' σ H' F wf → Q b H') → tt σ H Q
    | .ex x env' => (∀ Hs' H', Stp cf wf env Hs H env' Hs' H' → Rel cf R Hs' env' σ H' F wf → W (cf.cv x) none σ H') → tt σ H Q
    | .stuck => True
def SdA (cf : Cf) (W : WX) (c : Cls) (ta : TA) (f : M (List D)) : Prop :=
  ∀ (R : Rs) (Hs : Hp) (env : PEnv) (σ : L2.St) (H : Hp) (F : Nat → List Addr) (wf : List Addr), Rel cf R Hs env σ H F wf → ∀ Q : List V → Hp → Prop,
    match f env with
    | .ok ds env' => (∀ vs Hs' H', Stp cf wf env Hs H env' Hs' H' → Rel cf R Hs' env' σ H' F wf → RpL cf.K true (rg c R.H0 Hs' H H' wf) vs ds → Q vs H') → ta σ H Q
    | .ex x env' => (∀ Hs' H', Stp cf wf env Hs H env' Hs' H' → Rel cf R Hs' env' σ H' F wf → W (cf.cv x) none σ H') → ta σ H Q
    | .stuck => True
def Post (cf : Cf) (W : WX) (R : Rs) (Hs : Hp) (D : Ends) : Res Fl → Prop
  | .ok .nx env' => ∀ Hs' σ' H' F' wf', Ex Hs Hs' → Rel cf R Hs' env' σ' H' F' wf' → D.nx σ' H'
  | .ok (.rt d) env' => ∀ v Hs' σ' H' F' wf', Ex Hs Hs' → Rel cf R Hs' env' σ' H' F' wf' → Rp cf.K true (rs (rm H' wf') R.H0) v d → D.rt v H'
  | .ok .bk env' => ∀ Hs' σ' H' F' wf', Ex Hs Hs' → Rel cf R Hs' env' σ' H' F' wf' → D.bk σ' H'
  | .ok .ct env' => ∀ Hs' σ' H' F' wf', Ex Hs Hs' → Rel cf R Hs' env' σ' H' F' wf' → D.ct σ' H'
  | .ex x env' => ∀ Hs' σ' H' F' wf', Ex Hs Hs' → Rel cf R Hs' env' σ' H' F' wf' → W (cf.cv x) none σ' H'
  | .stuck => False
def SdS (cf : Cf) (W : WX) (ts : TS) (g : M Fl) : Prop :=
  ∀ (R : Rs) (Hs : Hp) (env : PEnv) (σ : L2.St) (H : Hp) (F : Nat → List Addr) (wf : List Addr), Rel cf R Hs env σ H F wf → ∀ D : Ends, Post cf W R Hs D (g env) → ts D σ H
structure SE (X : Cx) (cf : Cf) (W : WX) (c : Cls) (n : Bool) (e : Expr) (t : TE) (f : M D) : Prop where
  p : PE X e t
  s : Sd cf W c n t f
structure ST (X : Cx) (cf : Cf) (W : WX) (e : Expr) (t : TT) (f : M Bool) : Prop where
  p : PT X e t
  s : SdT cf W t f
structure SW (X : Cx) (cf : Cf) (W : WX) (e : Expr) (t : TT) (f : M Bool) : Prop where
  p : PW X e t
  s : SdT cf W t f
structure SA (X : Cx) (cf : Cf) (W : WX) (c : Cls) (es : List Expr) (t : TA) (f : M (List D)) : Prop where
  p : PA X es t
  s : SdA cf W c t f
def SS (X : Cx) (cf : Cf) (W : WX) (st : Stmt) (g : M Fl) : Prop := ∃ t, PS X st t ∧ SdS cf W t g
def SSs (X : Cx) (cf : Cf) (W : WX) (st : List Stmt) (g : M Fl) : Prop := ∃ t, PSs X st t ∧ SdS cf W t g
theorem Sd.le {cf : Cf} {W : WX} {c c' : Cls} {n : Bool} {te : TE} {f : M D} (h : Sd cf W c n te f) (l : Cls.Le c c') : Sd cf W c' n te f := by
  intro R Hs env σ H F wf r Q
  have h := h R Hs env σ H F wf r Q
  cases q : f env with
  | ok d env' =>
    rw [q] at h
    intro k
    refine h fun v Hs' H' s r' p nr => k v Hs' H' s r' (p.mono (rg_le l r'.exs r.dom0 fun a m => (r'.wdom a m).2)) nr
  | ex x env' => rw [q] at h; exact h
  | stuck => trivial
theorem SE.le {X : Cx} {cf : Cf} {W : WX} {c c' : Cls} {n : Bool} {e : Expr} {te : TE} {f : M D} (h : SE X cf W c n e te f) (l : Cls.Le c c') : SE X cf W c' n e te f := ⟨h.p, h.s.le l⟩
theorem Cls.leB (c : Cls) : Cls.Le c .B := by
  cases c with
  | V => exact .vb
  | N => exact .nb
  | S => exact .sb
  | L => exact .lb
  | B => exact .rfl _
theorem Sd.b {cf : Cf} {W : WX} {c : Cls} {n : Bool} {te : TE} {f : M D} (h : Sd cf W c n te f) : Sd cf W .B n te f := h.le (Cls.leB c)
theorem SE.b {X : Cx} {cf : Cf} {W : WX} {c : Cls} {n : Bool} {e : Expr} {te : TE} {f : M D} (h : SE X cf W c n e te f) : SE X cf W .B n e te f := h.le (Cls.leB c)
def ScF (f : M D) : Prop := ∀ env d env', f env = .ok d env' → d.sc = true
theorem Sd.low {cf : Cf} {W : WX} {c c' : Cls} {n n' : Bool} {te : TE} {f : M D} (s : Sd cf W c n te f) (hs : ScF f) : Sd cf W c' n' te f := by
  intro R Hs env σ H F wf r Q
  have h := s R Hs env σ H F wf r Q
  cases q : f env with
  | ok d env' =>
    rw [q] at h
    exact fun k => h fun v Hs' H' st r' p nr => k v Hs' H' st r' (p.sc_any (hs _ _ _ q) _ _) fun _ _ => p.sc_any (hs _ _ _ q) _ _
  | ex x env' => rw [q] at h; exact h
  | stuck => trivial
theorem SE.low {X : Cx} {cf : Cf} {W : WX} {c c' : Cls} {n n' : Bool} {e : Expr} {te : TE} {f : M D} (h : SE X cf W c n e te f) (hs : ScF f) : SE X cf W c' n' e te f := ⟨h.p, h.s.low hs⟩
def eF (f : M D) : M D := bnd f fun d => lift (if d.flat then some d else none)
theorem SE.flat {X : Cx} {cf : Cf} {W : WX} {c : Cls} {e : Expr} {te : TE} {f : M D} (h : SE X cf W c true e te f) : SE X cf W .V true e te (eF f) := by
  obtain ⟨p, s⟩ := h
  refine ⟨p, fun R Hs env σ H F wf r Q => ?_⟩
  have h := s R Hs env σ H F wf r Q
  cases q : f env with
  | ok d env' =>
    rw [q] at h
    cases hf : d.flat with
    | true =>
      have e1 : eF f env = .ok d env' := by simp [eF, bnd, lift, q, hf]
      rw [e1]
      exact fun k => h fun v Hs' H' st r' p nr => k v Hs' H' st r' (nr rfl hf) nr
    | false =>
      have e1 : eF f env = .stuck := by simp [eF, bnd, lift, q, hf]
      rw [e1]
      trivial
  | ex x env' =>
    rw [q] at h
    have e1 : eF f env = .ex x env' := by simp [eF, bnd, q]
    rw [e1]
    exact h
  | stuck =>
    have e1 : eF f env = .stuck := by simp [eF, bnd, q]
    rw [e1]
    trivial
end MV
namespace MV
open PySem L2
section
variable {α β : Type} {m : M α} {k : α → M β} {e e' : PEnv} {b : β} {a : α} {x : Str} {o : Option α}
theorem bnd_ok (h : bnd m k e = .ok b e') : ∃ a e1, m e = .ok a e1 ∧ k a e1 = .ok b e' := by
  unfold bnd at h
  cases q : m e with
  | ok a e1 => rw [q] at h; exact ⟨a, e1, rfl, h⟩
  | ex c e1 => rw [q] at h; cases h
  | stuck => rw [q] at h; cases h
theorem bnd_ex (h : bnd m k e = .ex x e') : m e = .ex x e' ∨ ∃ a e1, m e = .ok a e1 ∧ k a e1 = .ex x e' := by
  unfold bnd at h
  cases q : m e with
  | ok a e1 => rw [q] at h; exact .inr ⟨a, e1, rfl, h⟩
  | ex c e1 => rw [q] at h; exact .inl (show Res.ex c e1 = Res.ex x e' from by cases h; rfl)
  | stuck => rw [q] at h; cases h
theorem bnd_of_ok {e1 : PEnv} (h : m e = .ok a e1) : bnd m k e = k a e1 := by unfold bnd; rw [h]
theorem bnd_of_ex {e1 : PEnv} (h : m e = .ex x e1) : bnd m k e = .ex x e1 := by unfold bnd; rw [h]
theorem bnd_of_stuck (h : m e = .stuck) : bnd m k e = .stuck := by unfold bnd; rw [h]
theorem lift_ok (h : lift o e = .ok a e') : o = some a ∧ e' = e := by
  unfold lift at h
  cases o with
  | none => cases h
  | some z => cases h; exact ⟨rfl, rfl⟩
theorem lift_ex (h : lift o e = .ex x e') : False := by
  unfold lift at h
  cases o with
  | none => cases h
  | some z => cases h
end
section
variable {cf : Cf} {W : WX} {c : Cls} {n : Bool} {te : TE} {f : M D} {R : Rs} {Hs : Hp} {env env' : PEnv} {σ : L2.St} {H : Hp} {F : Nat → List Addr} {wf : List Addr}
theorem Sd.ok (s : Sd cf W c n te f) (r : Rel cf R Hs env σ H F wf) {d : D} (q : f env = .ok d env') {Q : VK} (k : ∀ v Hs' H', Stp cf wf env Hs H env' Hs' H' → Rel cf R Hs' env' σ H' F wf → Rp cf.K true (rg c R.H0 Hs' H H' wf) v d → Nr cf.K n H Hs' v d → Q v H') : te σ H Q := by
  have h := s R Hs env σ H F wf r Q
  rw [q] at h
  exact h k
theorem Sd.exn (s : Sd cf W c n te f) (r : Rel cf R Hs env σ H F wf) {x : Str} (q : f env = .ex x env') {Q : VK} (k : ∀ Hs' H', Stp cf wf env Hs H env' Hs' H' → Rel cf R Hs' env' σ H' F wf → W (cf.cv x) none σ H') : te σ H Q := by
  have h := s R Hs env σ H F wf r Q
  rw [q] at h
  exact h k
theorem Sd.mk (h1 : ∀ R Hs env σ H F wf, Rel cf R Hs env σ H F wf → ∀ d env', f env = .ok d env' → ∀ Q : VK, (∀ v Hs' H', Stp cf wf env Hs H env' Hs' H' → Rel cf R Hs' env' σ H' F wf → Rp cf.K true (rg c R.H0 Hs' H H' wf) v d → Nr cf.K n H Hs' v d → Q v H') → te σ H Q)
    (h2 : ∀ R Hs env σ H F wf, Rel cf R Hs env σ H F wf → ∀ x env', f env = .ex x env' → ∀ Q : VK, (∀ Hs' H', Stp cf wf env Hs H env' Hs' H' → Rel cf R Hs' env' σ H' F wf → W (cf.cv x) none σ H') → te σ H Q) : Sd cf W c n te f := by
  intro R Hs env σ H F wf r Q
  cases q : f env with
  | ok d env' => exact h1 R Hs env σ H F wf r d env' q Q
  | ex x env' => exact h2 R Hs env σ H F wf r x env' q Q
  | stuck => trivial
theorem SdT.ok {tt : TT} {f : M Bool} (s : SdT cf W tt f) (r : Rel cf R Hs env σ H F wf) {d : Bool} (q : f env = .ok d env') {Q : Bool → Hp → Prop} (k : ∀ Hs' H', Stp cf wf env Hs H env' Hs' H' → Rel cf R Hs' env' σ H' F wf → Q d H') : tt σ H Q := by
  have h := s R Hs env σ H F wf r Q
  rw [q] at h
  exact h k
theorem SdT.exn {tt : TT} {f : M Bool} (s : SdT cf W tt f) (r : Rel cf R Hs env σ H F wf) {x : Str} (q : f env = .ex x env') {Q : Bool → Hp → Prop} (k : ∀ Hs' H', Stp cf wf env Hs H env' Hs' H' → Rel cf R Hs' env' σ H' F wf → W (cf.cv x) none σ H') : tt σ H Q := by
  have h := s R Hs env σ H F wf r Q
  rw [q] at h
  exact h k
theorem SdT.mk {tt : TT} {f : M Bool} (h1 : ∀ R Hs env σ H F wf, Rel cf R Hs env σ H F wf → ∀ d env', f env = .ok d env' → ∀ Q : Bool → Hp → Prop, (∀ Hs' H', Stp cf wf env Hs H env' Hs' H' → Rel cf R Hs' env' σ H' F wf → Q d H') → tt σ H Q)
    (h2 : ∀ R Hs env σ H F wf, Rel cf R Hs env σ H F wf → ∀ x env', f env = .ex x env' → ∀ Q : Bool → Hp → Prop, (∀ Hs' H', Stp cf wf env Hs H env' Hs' H' → Rel cf R Hs' env' σ H' F wf → W (cf.cv x) none σ H') → tt σ H Q) : SdT cf W tt f := by
  intro R Hs env σ H F wf r Q
  cases q : f env with
  | ok d env' => exact h1 R Hs env σ H F wf r d env' q Q
  | ex x env' => exact h2 R Hs env σ H F wf r x env' q Q
  | stuck => trivial
theorem SdA.ok {ta : TA} {f : M (List D)} (s : SdA cf W c ta f) (r : Rel cf R Hs env σ H F wf) {d : List D} (q : f env = .ok d env') {Q : List V → Hp → Prop} (k : ∀ vs Hs' H', Stp cf wf env Hs H env' Hs' H' → Rel cf R Hs' env' σ H' F wf → RpL cf.K true (rg c R.H0 Hs' H H' wf) vs d → Q vs H') : ta σ H Q := by
  have h := s R Hs env σ H F wf r Q
  rw [q] at h
  exact h k
theorem SdA.exn {ta : TA} {f : M (List D)} (s : SdA cf W c ta f) (r : Rel cf R Hs env σ H F wf) {x : Str} (q : f env = .ex x env') {Q : List V → Hp → Prop} (k : ∀ Hs' H', Stp cf wf env Hs H env' Hs' H' → Rel cf R Hs' env' σ H' F wf → W (cf.cv x) none σ H') : ta σ H Q := by
  have h := s R Hs env σ H F wf r Q
  rw [q] at h
  exact h k
theorem SdA.mk {ta : TA} {f : M (List D)} (h1 : ∀ R Hs env σ H F wf, Rel cf R Hs env σ H F wf → ∀ d env', f env = .ok d env' → ∀ Q : List V → Hp → Prop, (∀ vs Hs' H', Stp cf wf env Hs H env' Hs' H' → Rel cf R Hs' env' σ H' F wf → RpL cf.K true (rg c R.H0 Hs' H H' wf) vs d → Q vs H') → ta σ H Q)
    (h2 : ∀ R Hs env σ H F wf, Rel cf R Hs env σ H F wf → ∀ x env', f env = .ex x env' → ∀ Q : List V → Hp → Prop, (∀ Hs' H', Stp cf wf env Hs H env' Hs' H' → Rel cf R Hs' env' σ H' F wf → W (cf.cv x) none σ H') → ta σ H Q) : SdA cf W c ta f := by
  intro R Hs env σ H F wf r Q
  cases q : f env with
  | ok d env' => exact h1 R Hs env σ H F wf r d env' q Q
  | ex x env' => exact h2 R Hs env σ H F wf r x env' q Q
  | stuck => trivial
end
def eV (i : Nat) : M D := fun e => match e[i]? with
  | some (some d) => .ok d e
  | _ => .stuck
def eC (d : D) : M D := fun e => .ok d e
theorem eV_ok {i : Nat} {e e' : PEnv} {d : D} (h : eV i e = .ok d e') : e[i]? = some (some d) ∧ e' = e := by
  unfold eV at h
  split at h
  · rename_i d' q; cases h; exact ⟨q, rfl⟩
  · cases h
theorem eV_ex {i : Nat} {e e' : PEnv} {x : Str} (h : eV i e = .ex x e') : False := by
  unfold eV at h
  split at h <;> cases h
section
variable {X : Cx} {cf : Cf} {W : WX}
theorem sd_var {c : Cls} {i : Nat} (hk : ∀ R Hs env σ H F wf, Rel cf R Hs env σ H F wf → ∀ v d, SlotR cf.K cf.ob R Hs H (F i) (cf.kd i) v d → Rp cf.K true (rg c R.H0 Hs H H wf) v d) : Sd cf W c false (tVar i) (eV i) := by
  refine Sd.mk (fun R Hs env σ H F wf r d env' q Q k => ?_) (fun _ _ _ _ _ _ _ _ _ _ q => (eV_ex q).elim)
  obtain ⟨q, rfl⟩ := eV_ok q
  obtain ⟨v, hv, hs⟩ := r.slot i d q
  exact ⟨v, hv, k v Hs H Stp.refl r (hk R Hs env' σ H F wf r v d hs) fun z => by cases z⟩
theorem se_vS (i : Nat) {e : Expr} (p : PE X e (tVar i)) (hk : cf.kd i = .S) : SE X cf W .S false e (tVar i) (eV i) := ⟨p, sd_var fun R Hs env σ H F wf r v d h => by rw [hk] at h; exact h⟩
theorem se_vN (i : Nat) {e : Expr} (p : PE X e (tVar i)) (hk : cf.kd i = .N) : SE X cf W .N false e (tVar i) (eV i) := ⟨p, sd_var fun R Hs env σ H F wf r v d h => by rw [hk] at h; exact h⟩
theorem Rel.mL {R : Rs} {Hs : Hp} {env : PEnv} {σ : L2.St} {H : Hp} {F : Nat → List Addr} {wf : List Addr} (r : Rel cf R Hs env σ H F wf) {i : Nat} (hk : cf.kd i ≠ .W) : ∀ a ∈ F i, ∀ o, H a = some o → rs (rm H wf) R.H0 a = some o := fun a m o h => by
  have h0 : R.H0 a = none := by
    rcases r.new i a m with z | z
    · obtain ⟨_, hF, hw, _⟩ := r.ior a z
      by_cases e : i = 0
      · subst e; exact absurd hw hk
      · exact absurd (by rw [hF]; exact List.mem_singleton.mpr rfl) (r.dis i 0 e a m)
    · exact z
  rw [rs_none h0]
  unfold rm
  rw [if_neg (r.volb i hk a m)]
  exact h
theorem Rel.nL {R : Rs} {Hs : Hp} {env : PEnv} {σ : L2.St} {H : Hp} {F : Nat → List Addr} {wf : List Addr} (r : Rel cf R Hs env σ H F wf) : Ex (rs Hs R.H0) (rs (rm H wf) R.H0) :=
  rg_le (c := .N) (c' := .L) .nl (Hst := H) r.exs r.dom0 fun a m => (r.wdom a m).2
theorem se_vM (i : Nat) {e : Expr} (p : PE X e (tVar i)) (hk : cf.kd i = .M) : SE X cf W .L false e (tVar i) (eV i) := ⟨p, sd_var fun R Hs env σ H F wf r v d h => by
  rw [hk] at h
  exact Own.rp r.nL h.1 (r.mL (by rw [hk]; exact fun z => by cases z))⟩
theorem sd_C {v : V} {d : D} (h : d.toV = some v) : Sd cf W .V true (tC v) (eC d) :=
  Sd.mk (fun R Hs env σ H F wf r d' env' q Q k => by cases q; exact k v Hs H Stp.refl r (.sc h) fun _ _ => .sc h) (fun _ _ _ _ _ _ _ _ _ _ q => by cases q)
theorem se_int {i : Int} {j : Nat} {pos : Pos} : SE X cf W .V true (.Constant (.int i) j pos) (tC (.int i)) (eC (.int i)) := ⟨pe_int, sd_C rfl⟩
theorem se_bl {b : Bool} {j : Nat} {pos : Pos} : SE X cf W .V true (.Constant (.bool b) j pos) (tC (.bl b)) (eC (.bl b)) := ⟨pe_bl, sd_C rfl⟩
theorem se_non {j : Nat} {pos : Pos} : SE X cf W .V true (.Constant .none j pos) (tC .non) (eC .non) := ⟨pe_non, sd_C rfl⟩
theorem se_str {x : Str} {j : Nat} {pos : Pos} : SE X cf W .V true (.Constant (.str x) j pos) (tC (.str x)) (eC (.str x)) := ⟨pe_str, sd_C rfl⟩
theorem se_glob {e : Expr} {v : V} {d : D} (p : PE X e (tC v)) (h : d.toV = some v) : SE X cf W .V true e (tC v) (eC d) := ⟨p, sd_C h⟩
end
def e1 (g : D → Option D) (a : M D) : M D := bnd a fun x => lift (g x)
def e2 (g : D → D → Option D) (a b : M D) : M D := bnd a fun x => bnd b fun y => lift (g x y)
def eN (g : List D → Option D) (a : M (List D)) : M D := bnd a fun x => lift (g x)
def aNil : M (List D) := ret []
def aCons (a : M D) (r : M (List D)) : M (List D) := bnd a fun x => bnd r fun xs => ret (x :: xs)
def Nn (K : PySem.W.Frag) (n : Bool) (H H' : Hp) (v : V) (d : D) : Prop := n = true → d.flat = true → Rp K true (nw H H') v d
def Snd1 (K : PySem.W.Frag) (n : Bool) (r : V → Hp → VK → Prop) (g : D → Option D) : Prop := ∀ (G H : Hp) (x : V) (d1 d : D), Ex G H → Rp K true G x d1 → g d1 = some d → ∀ Q : VK, (∀ v H', Ex H H' → Rp K true (grow G H H') v d → Nn K n H H' v d → Q v H') → r x H Q
def Snd2 (K : PySem.W.Frag) (n : Bool) (r : R2) (g : D → D → Option D) : Prop := ∀ (G H : Hp) (x y : V) (d1 d2 d : D), Ex G H → Rp K true G x d1 → Rp K true G y d2 → g d1 d2 = some d → ∀ Q : VK, (∀ v H', Ex H H' → Rp K true (grow G H H') v d → Nn K n H H' v d → Q v H') → r x y H Q
def SndN (K : PySem.W.Frag) (n : Bool) (r : List V → Hp → VK → Prop) (g : List D → Option D) : Prop := ∀ (G H : Hp) (xs : List V) (ds : List D) (d : D), Ex G H → RpL K true G xs ds → g ds = some d → ∀ Q : VK, (∀ v H', Ex H H' → Rp K true (grow G H H') v d → Nn K n H H' v d → Q v H') → r xs H Q
theorem nr_of {K : PySem.W.Frag} {n : Bool} {Hst Hs H H' : Hp} {v : V} {d : D} (ds : ∀ a, Hst a ≠ none → H a ≠ none) (h : Nn K n H H' v d) : Nr K n Hst (grow Hs H H') v d := fun z hf => (h z hf).mono fun a o q => by
  cases e : H a with
  | none =>
    rw [nw_none e] at q
    have : Hst a = none := by
      cases z : Hst a with
      | none => rfl
      | some u => exact absurd e (ds a (by rw [z]; exact fun y => by cases y))
    rw [rs_none this, grow_none e]; exact q
  | some u => rw [nw_some e] at q; cases q
section
variable {X : Cx} {cf : Cf} {W : WX} {c : Cls} {n n1 n2 : Bool}
theorem fin_op {R : Rs} {Hs Hs2 : Hp} {env env2 : PEnv} {σ : L2.St} {H H2 H3 : Hp} {F : Nat → List Addr} {wf : List Addr} {v : V} {d : D} (s : Stp cf wf env Hs H env2 Hs2 H2) (r : Rel cf R Hs2 env2 σ H2 F wf) (x : Ex H2 H3) (p : Rp cf.K true (grow (rg c R.H0 Hs2 H H2 wf) H2 H3) v d) (nn : Nn cf.K n H2 H3 v d) {Q : VK}
    (k : ∀ v Hs' H', Stp cf wf env Hs H env2 Hs' H' → Rel cf R Hs' env2 σ H' F wf → Rp cf.K true (rg c R.H0 Hs' H H' wf) v d → Nr cf.K n H Hs' v d → Q v H') : Q v H3 :=
  k v (grow Hs2 H2 H3) H3 (s.trans (Stp.grow r.exs x)) (r.grow x) (p.mono (rg_grow r.dom0 s.dom (fun a m => (r.wdom a m).1) r.exs x)) (nr_of s.dom nn)
theorem sd_op1 {r : V → Hp → VK → Prop} {g : D → Option D} {ta : TE} {fa : M D} (hs : Snd1 cf.K n r g) (ha : Sd cf W c n1 ta fa) : Sd cf W c n (tUn r ta) (e1 g fa) := by
  refine Sd.mk (fun R Hs env σ H F wf r d env' q Q k => ?_) (fun R Hs env σ H F wf r x env' q Q k => ?_)
  · obtain ⟨d1, env1, q1, q⟩ := bnd_ok q
    obtain ⟨qg, rfl⟩ := lift_ok q
    exact ha.ok r q1 fun v Hs1 H1 s1 r1 p1 _ => hs _ H1 v d1 d (rg_sub r1.exs) p1 qg Q fun v2 H2 x p nn => fin_op s1 r1 x p nn k
  · rcases bnd_ex q with q | ⟨d1, env1, q1, q⟩
    · exact ha.exn r q k
    · exact (lift_ex q).elim
theorem sd_op2 {r : R2} {g : D → D → Option D} {ta tb : TE} {fa fb : M D} (hs : Snd2 cf.K n r g) (ha : Sd cf W c n1 ta fa) (hb : Sd cf W c n2 tb fb) : Sd cf W c n (tOp r ta tb) (e2 g fa fb) := by
  refine Sd.mk (fun R Hs env σ H F wf r d env' q Q k => ?_) (fun R Hs env σ H F wf r x env' q Q k => ?_)
  · obtain ⟨d1, env1, q1, q⟩ := bnd_ok q
    obtain ⟨d2, env2, q2, q⟩ := bnd_ok q
    obtain ⟨qg, rfl⟩ := lift_ok q
    exact ha.ok r q1 fun v Hs1 H1 s1 r1 p1 _ => hb.ok r1 q2 fun v2 Hs2 H2 s2 r2 p2 _ =>
      hs (rg c R.H0 Hs2 H H2 wf) H2 v v2 d1 d2 d (rg_sub r2.exs) (p1.mono (rg_step s2)) (p2.mono (rg_start s1.dom)) qg Q fun v3 H3 x p nn => fin_op (s1.trans s2) r2 x p nn k
  · rcases bnd_ex q with q | ⟨d1, env1, q1, q⟩
    · exact ha.exn r q k
    · rcases bnd_ex q with q | ⟨d2, env2, q2, q⟩
      · exact ha.ok r q1 fun v Hs1 H1 s1 r1 p1 _ => hb.exn r1 q fun Hs2 H2 s2 r2 => k Hs2 H2 (s1.trans s2) r2
      · exact (lift_ex q).elim
theorem sd_opN {r : List V → Hp → VK → Prop} {g : List D → Option D} {ta : TA} {fa : M (List D)} (hs : SndN cf.K n r g) (ha : SdA cf W c ta fa) : Sd cf W c n (tCB r ta) (eN g fa) := by
  refine Sd.mk (fun R Hs env σ H F wf r d env' q Q k => ?_) (fun R Hs env σ H F wf r x env' q Q k => ?_)
  · obtain ⟨d1, env1, q1, q⟩ := bnd_ok q
    obtain ⟨qg, rfl⟩ := lift_ok q
    exact ha.ok r q1 fun v Hs1 H1 s1 r1 p1 => hs _ H1 v d1 d (rg_sub r1.exs) p1 qg Q fun v2 H2 x p nn => fin_op s1 r1 x p nn k
  · rcases bnd_ex q with q | ⟨d1, env1, q1, q⟩
    · exact ha.exn r q k
    · exact (lift_ex q).elim
theorem sda_nil : SdA cf W c tNil aNil := SdA.mk (fun R Hs env σ H F wf r d env' q Q k => by cases q; exact k [] Hs H Stp.refl r .nil) (fun _ _ _ _ _ _ _ _ _ _ q => by cases q)
theorem sda_cons {ta : TE} {fa : M D} {tr : TA} {fr : M (List D)} (ha : Sd cf W c n1 ta fa) (hr : SdA cf W c tr fr) : SdA cf W c (tCons ta tr) (aCons fa fr) := by
  refine SdA.mk (fun R Hs env σ H F wf r d env' q Q k => ?_) (fun R Hs env σ H F wf r x env' q Q k => ?_)
  · obtain ⟨d1, env1, q1, q⟩ := bnd_ok q
    obtain ⟨d2, env2, q2, q⟩ := bnd_ok q
    cases q
    exact ha.ok r q1 fun v Hs1 H1 s1 r1 p1 _ => hr.ok r1 q2 fun v2 Hs2 H2 s2 r2 p2 => k (v :: v2) Hs2 H2 (s1.trans s2) r2 (.cons (p1.mono (rg_step s2)) (p2.mono (rg_start s1.dom)))
  · rcases bnd_ex q with q | ⟨d1, env1, q1, q⟩
    · exact ha.exn r q k
    · rcases bnd_ex q with q | ⟨d2, env2, q2, q⟩
      · exact ha.ok r q1 fun v Hs1 H1 s1 r1 p1 _ => hr.exn r1 q fun Hs2 H2 s2 r2 => k Hs2 H2 (s1.trans s2) r2
      · cases q
theorem sa_nil : SA X cf W c [] tNil aNil := ⟨pa_nil, sda_nil⟩
theorem sa_cons {e : Expr} {es : List Expr} {ta : TE} {tr : TA} {fa : M D} {fr : M (List D)} (ha : SE X cf W c n1 e ta fa) (hr : SA X cf W c es tr fr) (hs : starEach (e :: es) X.env = (false, eval e X.env) :: starEach es X.env := by rfl) : SA X cf W c (e :: es) (tCons ta tr) (aCons fa fr) := ⟨pa_cons ha.p hr.p hs, sda_cons ha.s hr.s⟩
def gLst (ds : List D) : Option D := if ds.length ≤ sizeLine then some (.lst ds) else none
def gTupD (ds : List D) : Option D := if ds.length ≤ sizeLine then some (.tup ds) else none
theorem new_rp {K : PySem.W.Frag} {G H : Hp} {p : Addr} {xs : List V} {ds : List D} (e : Ex G H) (hp : H p = none) (h : RpL K true G xs ds) : Rp K true (grow G H (upd H p (.lst xs))) (.ref p) (.lst ds) :=
  .lst (show grow G H (upd H p (.lst xs)) p = _ by rw [grow_none hp, upd_same]) (h.mono (Ex.grow e (Ex.new hp)))
theorem new_nn {K : PySem.W.Frag} {n : Bool} {G H : Hp} {p : Addr} {xs : List V} {ds : List D} (hp : H p = none) (h : RpL K true G xs ds) : Nn K n H (upd H p (.lst xs)) (.ref p) (.lst ds) := fun _ hf =>
  .lst (show nw H (upd H p (.lst xs)) p = _ by rw [nw_none hp, upd_same]) (h.sc_any hf _ _)
theorem newT_rp {K : PySem.W.Frag} {G H : Hp} {p : Addr} {xs : List V} {ds : List D} (e : Ex G H) (hp : H p = none) (h : RpL K true G xs ds) : Rp K true (grow G H (upd H p (.tup xs))) (.ref p) (.tup ds) :=
  .tup (show grow G H (upd H p (.tup xs)) p = _ by rw [grow_none hp, upd_same]) (h.mono (Ex.grow e (Ex.new hp)))
theorem newT_nn {K : PySem.W.Frag} {n : Bool} {G H : Hp} {p : Addr} {xs : List V} {ds : List D} (hp : H p = none) (h : RpL K true G xs ds) : Nn K n H (upd H p (.tup xs)) (.ref p) (.tup ds) := fun _ hf =>
  .tup (show nw H (upd H p (.tup xs)) p = _ by rw [nw_none hp, upd_same]) (h.sc_any hf _ _)
theorem snd_lst {K : PySem.W.Frag} {n : Bool} : SndN K n (fun xs H1 Q => xs.length ≤ sizeLine ∧ ∀ p, H1 p = none → Q (.ref p) (upd H1 p (.lst xs))) gLst := fun G H xs ds d e h q Q k => by
  unfold gLst at q
  split at q
  · cases q
    rename_i hl
    exact ⟨by rw [h.length]; exact hl, fun p hp => k _ _ (Ex.new hp) (new_rp e hp h) (new_nn hp h)⟩
  · cases q
theorem snd_tup {K : PySem.W.Frag} {n : Bool} : SndN K n (fun xs H1 Q => xs.length ≤ sizeLine ∧ ∀ p, H1 p = none → Q (.ref p) (upd H1 p (.tup xs))) gTupD := fun G H xs ds d e h q Q k => by
  unfold gTupD at q
  split at q
  · cases q
    rename_i hl
    exact ⟨by rw [h.length]; exact hl, fun p hp => k _ _ (Ex.new hp) (newT_rp e hp h) (newT_nn hp h)⟩
  · cases q
theorem se_lst {es : List Expr} {ta : TA} {fa : M (List D)} {pos : Pos} (h : SA X cf W c es ta fa) : SE X cf W c true (.List es pos) (tLst ta) (eN gLst fa) := by
  obtain ⟨p, s⟩ := h
  exact ⟨pe_lst p, sd_opN (r := fun xs H1 Q => xs.length ≤ sizeLine ∧ ∀ p, H1 p = none → Q (.ref p) (upd H1 p (.lst xs))) snd_lst s⟩
theorem se_tup {es : List Expr} {ta : TA} {fa : M (List D)} {x1 : Nat} {pos : Pos} (h : SA X cf W c es ta fa) : SE X cf W c true (.Tuple es x1 pos) (tTup ta) (eN gTupD fa) := by
  obtain ⟨p, s⟩ := h
  exact ⟨pe_tup p, sd_opN (r := fun xs H1 Q => xs.length ≤ sizeLine ∧ ∀ p, H1 p = none → Q (.ref p) (upd H1 p (.tup xs))) snd_tup s⟩
theorem se_bin {op : Operator} {r : R2} {g : D → D → Option D} {a b : Expr} {ta tb : TE} {fa fb : M D} {pos : Pos} (ho : OpR X (binaryOp op) r) (hs : Snd2 cf.K n r g) (ha : SE X cf W c n1 a ta fa) (hb : SE X cf W c n2 b tb fb) : SE X cf W c n (.BinOp a op b pos) (tOp r ta tb) (e2 g fa fb) := ⟨pe_op ho ha.p hb.p, sd_op2 hs ha.s hb.s⟩
theorem se_una {op : UnaryOp} {r : V → Hp → VK → Prop} {g : D → Option D} {a : Expr} {ta : TE} {fa : M D} {pos : Pos} (ho : UnR X (unaryOp op) r) (hs : Snd1 cf.K n r g) (ha : SE X cf W c n1 a ta fa) : SE X cf W c n (.UnaryOp op a pos) (tUn r ta) (e1 g fa) := ⟨pe_un ho ha.p, sd_op1 hs ha.s⟩
theorem se_cmp {op : CmpOp} {r : R2} {g : D → D → Option D} {a b : Expr} {ta tb : TE} {fa fb : M D} {pos : Pos} (ho : OpR X (compareOp op) r) (hs : Snd2 cf.K n r g) (ha : SE X cf W c n1 a ta fa) (hb : SE X cf W c n2 b tb fb) (hm : behindInMarks op b = false) : SE X cf W c n (.Compare a [op] [b] pos) (tOp r ta tb) (e2 g fa fb) := ⟨pe_cmpR ho ha.p hb.p hm, sd_op2 hs ha.s hb.s⟩
def asB (d : D) : Option Bool := match d with
  | .bl b => some b
  | _ => none
def tB (f : M D) : M Bool := bnd f fun d => lift (asB d)
theorem asB_some {d : D} {b : Bool} (h : asB d = some b) : d = .bl b := by
  unfold asB at h
  split at h
  · cases h; rfl
  · cases h
theorem sdt_test {te : TE} {f : M D} (h : Sd cf W c n te f) : SdT cf W (tTest te) (tB f) := by
  refine SdT.mk (fun R Hs env σ H F wf r d env' q Q k => ?_) (fun R Hs env σ H F wf r x env' q Q k => ?_)
  · obtain ⟨d1, env1, q1, q⟩ := bnd_ok q
    obtain ⟨qg, rfl⟩ := lift_ok q
    cases asB_some qg
    exact h.ok r q1 fun v Hs1 H1 s1 r1 p1 _ => ⟨d, p1.bl_inv, k Hs1 H1 s1 r1⟩
  · rcases bnd_ex q with q | ⟨d1, env1, q1, q⟩
    · exact h.exn r q k
    · exact (lift_ex q).elim
theorem st_cmp {op : CmpOp} {r : R2} {g : D → D → Option D} {a b : Expr} {ta tb : TE} {fa fb : M D} {pos : Pos} (ho : OpR X (compareOp op) r) (hs : Snd2 cf.K n r g) (ha : SE X cf W c n1 a ta fa) (hb : SE X cf W c n2 b tb fb) (hm : behindInMarks op b = false) : ST X cf W (.Compare a [op] [b] pos) (tTest (tOp r ta tb)) (tB (e2 g fa fb)) := ⟨pt_cmpR ho ha.p hb.p hm, sdt_test (sd_op2 hs ha.s hb.s)⟩
theorem st_val {e : Expr} {te : TE} {f : M D} (h : SE X cf W c n e te f) (he : ∀ whole, isTrue e X.env whole = (do let v ← whole; standAt e.pos; holding [v] (truthy v)) := by intro _; rfl) : ST X cf W e (L2.tB te) (tB f) := ⟨pt_val h.p he, sdt_test h.s⟩
def tAnd2 (a b : M Bool) : M Bool := bnd a fun x => if x then b else ret false
def tOr2 (a b : M Bool) : M Bool := bnd a fun x => if x then ret true else b
def tNot1 (a : M Bool) : M Bool := bnd a fun x => ret (!x)
theorem sdt_and {ta tb : TT} {fa fb : M Bool} (ha : SdT cf W ta fa) (hb : SdT cf W tb fb) : SdT cf W (tAnd ta tb) (tAnd2 fa fb) := by
  refine SdT.mk (fun R Hs env σ H F wf r d env' q Q k => ?_) (fun R Hs env σ H F wf r x env' q Q k => ?_)
  · obtain ⟨d1, env1, q1, q⟩ := bnd_ok q
    refine ha.ok r q1 fun Hs1 H1 s1 r1 => ?_
    cases d1 with
    | true => exact hb.ok r1 q fun Hs2 H2 s2 r2 => k Hs2 H2 (s1.trans s2) r2
    | false => cases q; exact k Hs1 H1 s1 r1
  · rcases bnd_ex q with q | ⟨d1, env1, q1, q⟩
    · exact ha.exn r q k
    · refine ha.ok r q1 fun Hs1 H1 s1 r1 => ?_
      cases d1 with
      | true => exact hb.exn r1 q fun Hs2 H2 s2 r2 => k Hs2 H2 (s1.trans s2) r2
      | false => cases q
theorem sdt_or {ta tb : TT} {fa fb : M Bool} (ha : SdT cf W ta fa) (hb : SdT cf W tb fb) : SdT cf W (tOr ta tb) (tOr2 fa fb) := by
  refine SdT.mk (fun R Hs env σ H F wf r d env' q Q k => ?_) (fun R Hs env σ H F wf r x env' q Q k => ?_)
  · obtain ⟨d1, env1, q1, q⟩ := bnd_ok q
    refine ha.ok r q1 fun Hs1 H1 s1 r1 => ?_
    cases d1 with
    | false => exact hb.ok r1 q fun Hs2 H2 s2 r2 => k Hs2 H2 (s1.trans s2) r2
    | true => cases q; exact k Hs1 H1 s1 r1
  · rcases bnd_ex q with q | ⟨d1, env1, q1, q⟩
    · exact ha.exn r q k
    · refine ha.ok r q1 fun Hs1 H1 s1 r1 => ?_
      cases d1 with
      | false => exact hb.exn r1 q fun Hs2 H2 s2 r2 => k Hs2 H2 (s1.trans s2) r2
      | true => cases q
theorem sdt_not {ta : TT} {fa : M Bool} (ha : SdT cf W ta fa) : SdT cf W (tNot ta) (tNot1 fa) := by
  refine SdT.mk (fun R Hs env σ H F wf r d env' q Q k => ?_) (fun R Hs env σ H F wf r x env' q Q k => ?_)
  · obtain ⟨d1, env1, q1, q⟩ := bnd_ok q
    cases q
    exact ha.ok r q1 k
  · rcases bnd_ex q with q | ⟨d1, env1, q1, q⟩
    · exact ha.exn r q k
    · cases q
theorem sw_and1 {a : Expr} {ta : TT} {fa : M Bool} {pos : Pos} (h : ST X cf W a ta fa) : SW X cf W (.BoolOp .And [a] pos) ta fa := ⟨pw_and1 h.p, h.s⟩
theorem sw_or1 {a : Expr} {ta : TT} {fa : M Bool} {pos : Pos} (h : ST X cf W a ta fa) : SW X cf W (.BoolOp .Or [a] pos) ta fa := ⟨pw_or1 h.p, h.s⟩
theorem sw_and {a b : Expr} {rest : List Expr} {ta tb : TT} {fa fb : M Bool} {pos : Pos} (h : ST X cf W a ta fa) (h2 : SW X cf W (.BoolOp .And (b :: rest) pos) tb fb) : SW X cf W (.BoolOp .And (a :: b :: rest) pos) (tAnd ta tb) (tAnd2 fa fb) := ⟨pw_and h.p h2.p, sdt_and h.s h2.s⟩
theorem sw_or {a b : Expr} {rest : List Expr} {ta tb : TT} {fa fb : M Bool} {pos : Pos} (h : ST X cf W a ta fa) (h2 : SW X cf W (.BoolOp .Or (b :: rest) pos) tb fb) : SW X cf W (.BoolOp .Or (a :: b :: rest) pos) (tOr ta tb) (tOr2 fa fb) := ⟨pw_or h.p h2.p, sdt_or h.s h2.s⟩
theorem SW.st {e : Expr} {ta : TT} {f : M Bool} (h : SW X cf W e ta f) : ST X cf W e ta f := ⟨h.p.pt, h.s⟩
theorem st_not {a : Expr} {ta : TT} {fa : M Bool} {pos : Pos} (h : ST X cf W a ta fa) : ST X cf W (.UnaryOp .Not a pos) (tNot ta) (tNot1 fa) := ⟨pt_not h.p, sdt_not h.s⟩
def eAndV (a b : M D) : M D := bnd a fun x => bnd (lift (asB x)) fun k => if k then b else ret (.bl false)
def eOrV (a b : M D) : M D := bnd a fun x => bnd (lift (asB x)) fun k => if k then ret (.bl true) else b
def eNotV (a : M D) : M D := bnd a fun x => bnd (lift (asB x)) fun k => ret (.bl (!k))
def eIfE (t : M Bool) (a b : M D) : M D := bnd t fun k => if k then a else b
theorem sd_andV {ta tb : TE} {fa fb : M D} (ha : Sd cf W c n1 ta fa) (hb : Sd cf W c n2 tb fb) : Sd cf W c n2 (tAndV ta tb) (eAndV fa fb) := by
  refine Sd.mk (fun R Hs env σ H F wf r d env' q Q k => ?_) (fun R Hs env σ H F wf r x env' q Q k => ?_)
  · obtain ⟨d1, env1, q1, q⟩ := bnd_ok q
    obtain ⟨b, env2, q2, q⟩ := bnd_ok q
    obtain ⟨qb, rfl⟩ := lift_ok q2
    cases asB_some qb
    refine ha.ok r q1 fun v Hs1 H1 s1 r1 p1 _ => ⟨b, p1.bl_inv, ?_⟩
    cases b with
    | true => exact hb.ok r1 q fun v2 Hs2 H2 s2 r2 p2 nr => k v2 Hs2 H2 (s1.trans s2) r2 (p2.mono (rg_start s1.dom)) fun z hf => (nr z hf).mono (rg_start (c := .V) (H0 := R.H0) (H := H2) (wf := wf) s1.dom)
    | false => cases q; exact k _ Hs1 H1 s1 r1 (.bl false) fun _ _ => .bl false
  · rcases bnd_ex q with q | ⟨d1, env1, q1, q⟩
    · exact ha.exn r q k
    · rcases bnd_ex q with q | ⟨b, env2, q2, q⟩
      · exact (lift_ex q).elim
      · obtain ⟨qb, rfl⟩ := lift_ok q2
        cases asB_some qb
        refine ha.ok r q1 fun v Hs1 H1 s1 r1 p1 _ => ⟨b, p1.bl_inv, ?_⟩
        cases b with
        | true => exact hb.exn r1 q fun Hs2 H2 s2 r2 => k Hs2 H2 (s1.trans s2) r2
        | false => cases q
theorem sd_orV {ta tb : TE} {fa fb : M D} (ha : Sd cf W c n1 ta fa) (hb : Sd cf W c n2 tb fb) : Sd cf W c n2 (tOrV ta tb) (eOrV fa fb) := by
  refine Sd.mk (fun R Hs env σ H F wf r d env' q Q k => ?_) (fun R Hs env σ H F wf r x env' q Q k => ?_)
  · obtain ⟨d1, env1, q1, q⟩ := bnd_ok q
    obtain ⟨b, env2, q2, q⟩ := bnd_ok q
    obtain ⟨qb, rfl⟩ := lift_ok q2
    cases asB_some qb
    refine ha.ok r q1 fun v Hs1 H1 s1 r1 p1 _ => ⟨b, p1.bl_inv, ?_⟩
    cases b with
    | false => exact hb.ok r1 q fun v2 Hs2 H2 s2 r2 p2 nr => k v2 Hs2 H2 (s1.trans s2) r2 (p2.mono (rg_start s1.dom)) fun z hf => (nr z hf).mono (rg_start (c := .V) (H0 := R.H0) (H := H2) (wf := wf) s1.dom)
    | true => cases q; exact k _ Hs1 H1 s1 r1 (.bl true) fun _ _ => .bl true
  · rcases bnd_ex q with q | ⟨d1, env1, q1, q⟩
    · exact ha.exn r q k
    · rcases bnd_ex q with q | ⟨b, env2, q2, q⟩
      · exact (lift_ex q).elim
      · obtain ⟨qb, rfl⟩ := lift_ok q2
        cases asB_some qb
        refine ha.ok r q1 fun v Hs1 H1 s1 r1 p1 _ => ⟨b, p1.bl_inv, ?_⟩
        cases b with
        | false => exact hb.exn r1 q fun Hs2 H2 s2 r2 => k Hs2 H2 (s1.trans s2) r2
        | true => cases q
theorem sd_notV {ta : TE} {fa : M D} (ha : Sd cf W c n1 ta fa) : Sd cf W c n (tNotV ta) (eNotV fa) := by
  refine Sd.mk (fun R Hs env σ H F wf r d env' q Q k => ?_) (fun R Hs env σ H F wf r x env' q Q k => ?_)
  · obtain ⟨d1, env1, q1, q⟩ := bnd_ok q
    obtain ⟨b, env2, q2, q⟩ := bnd_ok q
    obtain ⟨qb, rfl⟩ := lift_ok q2
    cases asB_some qb
    cases q
    exact ha.ok r q1 fun v Hs1 H1 s1 r1 p1 _ => ⟨b, p1.bl_inv, k _ Hs1 H1 s1 r1 (.bl _) fun _ _ => .bl _⟩
  · rcases bnd_ex q with q | ⟨d1, env1, q1, q⟩
    · exact ha.exn r q k
    · rcases bnd_ex q with q | ⟨b, env2, q2, q⟩
      · exact (lift_ex q).elim
      · cases q
theorem se_one {op} {a : Expr} {ta : TE} {fa : M D} {pos : Pos} (h : SE X cf W c n a ta fa) : SE X cf W c n (.BoolOp op [a] pos) ta fa := ⟨pe_one h.p, h.s⟩
theorem se_and {a b : Expr} {rest : List Expr} {ta tb : TE} {fa fb : M D} {pos : Pos} (h : SE X cf W c n1 a ta fa) (h2 : SE X cf W c n2 (.BoolOp .And (b :: rest) pos) tb fb) : SE X cf W c n2 (.BoolOp .And (a :: b :: rest) pos) (tAndV ta tb) (eAndV fa fb) := ⟨pe_and h.p h2.p, sd_andV h.s h2.s⟩
theorem se_or {a b : Expr} {rest : List Expr} {ta tb : TE} {fa fb : M D} {pos : Pos} (h : SE X cf W c n1 a ta fa) (h2 : SE X cf W c n2 (.BoolOp .Or (b :: rest) pos) tb fb) : SE X cf W c n2 (.BoolOp .Or (a :: b :: rest) pos) (tOrV ta tb) (eOrV fa fb) := ⟨pe_or h.p h2.p, sd_orV h.s h2.s⟩
theorem se_not {a : Expr} {ta : TE} {fa : M D} {pos : Pos} (h : SE X cf W c n1 a ta fa) : SE X cf W c n (.UnaryOp .Not a pos) (tNotV ta) (eNotV fa) := ⟨pe_not h.p, sd_notV h.s⟩
theorem se_cb {id : String} {r : List V → Hp → VK → Prop} {g : List D → Option D} {x : Str} {e : Expr} {es : List Expr} {ta : TA} {fa : M (List D)} {p pos : Pos} (hc : CallR X (.builtin id) r) (hs : SndN cf.K n r g) (hg : Gl X x) (hm : X.mg x = none) (hv : bootBuiltins x = some (.builtin id)) (ha : SA X cf W c (e :: es) ta fa)
    (hn : x ≠ "__name__" := by decide) (hdb : (x == ("__debug__" : Str)) = false := by decide) (he : starEach (e :: es) X.env = (false, eval e X.env) :: starEach es X.env := by rfl) (hpl : (backTo pos (starEach es X.env)).any (·.1) = false := by rfl) :
    SE X cf W c n (.Call (.Name x p) (e :: es) [] pos) (tCB r ta) (eN g fa) := ⟨pe_callB hc hg hm hv ha.p hn hdb he hpl, sd_opN hs ha.s⟩
theorem se_ct {T : String} {r : List V → Hp → VK → Prop} {g : List D → Option D} {x : Str} {e : Expr} {es : List Expr} {ta : TA} {fa : M (List D)} {p pos : Pos} (hc : CallR X (.type T) r) (hs : SndN cf.K n r g) (hg : Gl X x) (hm : X.mg x = none) (hv : bootBuiltins x = some (.type T)) (ha : SA X cf W c (e :: es) ta fa)
    (hn : x ≠ "__name__" := by decide) (hdb : (x == ("__debug__" : Str)) = false := by decide) (he : starEach (e :: es) X.env = (false, eval e X.env) :: starEach es X.env := by rfl) (hpl : (backTo pos (starEach es X.env)).any (·.1) = false := by rfl) :
    SE X cf W c n (.Call (.Name x p) (e :: es) [] pos) (tCB r ta) (eN g fa) := ⟨pe_callTy hc hg hm hv ha.p hn hdb he hpl, sd_opN hs ha.s⟩
end
end MV
namespace MV
open PySem L2
abbrev LIM : Nat := 100000
theorem lim_sz {n : Nat} (h : n ≤ LIM) : n ≤ sizeLine := Nat.le_trans h (by decide)
theorem lim_lt {n : Nat} (h : n < LIM) : n < sizeLine := Nat.lt_of_lt_of_le h (by decide)
section
variable {K : PySem.W.Frag} {G H : Hp} {n : Bool} {d : D} {v : V} {Q : VK}
theorem k_sc (k : ∀ v H', Ex H H' → Rp K true (grow G H H') v d → Nn K n H H' v d → Q v H') (h : d.toV = some v) : Q v H := k v H (Ex.refl H) (.sc h) fun _ _ => .sc h
end
def gI2 (f : Int → Int → Option D) : D → D → Option D
  | .int i, .int j => f i j
  | _, _ => none
theorem gI2_some {f : Int → Int → Option D} {x y d : D} (h : gI2 f x y = some d) : ∃ i j, x = .int i ∧ y = .int j ∧ f i j = some d := by
  unfold gI2 at h
  split at h
  · exact ⟨_, _, rfl, rfl, h⟩
  · cases h
theorem snd_rI {K : PySem.W.Frag} {C : Int → Int → Prop} [∀ i j, Decidable (C i j)] {g : Int → Int → V} {g' : Int → Int → D} (hg : ∀ i j, (g' i j).toV = some (g i j)) : Snd2 K true (rI C g) (gI2 fun i j => if C i j then some (g' i j) else none) := fun G H x y d1 d2 d e h1 h2 q Q k => by
  obtain ⟨i, j, rfl, rfl, qq⟩ := gI2_some q
  split at qq
  · cases qq
    rename_i hc
    exact ⟨i, j, h1.int_inv, h2.int_inv, hc, k_sc k (hg i j)⟩
  · cases qq
theorem snd_rI0 {K : PySem.W.Frag} {g : Int → Int → V} {g' : Int → Int → D} (hg : ∀ i j, (g' i j).toV = some (g i j)) : Snd2 K true (rI0 g) (gI2 fun i j => some (g' i j)) := fun G H x y d1 d2 d e h1 h2 q Q k => by
  obtain ⟨i, j, rfl, rfl, qq⟩ := gI2_some q
  cases qq
  exact ⟨i, j, h1.int_inv, h2.int_inv, k_sc k (hg i j)⟩
instance {i j : Int} : Decidable (CDiv i j) := by unfold CDiv; infer_instance
instance {i j : Int} : Decidable (CPow i j) := by unfold CPow; infer_instance
instance {i j : Int} : Decidable (CMul i j) := by unfold CMul; infer_instance
def gSub := gI2 fun i j => some (.int (i - j))
def divW (j : Int) : Bool := decide (0 < j) && decide (j.natAbs.log2 < 9000)
def gFdiv := gI2 fun i j => if CDiv i j ∨ divW j = true then some (.int (i / j)) else none
def gMod := gI2 fun i j => if 0 < j then some (.int (i % j)) else none
def gPow := gI2 fun i j => if CPow i j then some (.int (i ^ j.toNat)) else none
def gShr := gI2 fun i j => if 0 ≤ j then some (.int (i / 2 ^ j.toNat)) else none
def gShl := gI2 fun i j => if CPow i j then some (.int (i * 2 ^ j.toNat)) else none
def gLt := gI2 fun i j => some (.bl (decide (i < j)))
def gLe := gI2 fun i j => some (.bl (decide (i ≤ j)))
def gGt := gI2 fun i j => some (.bl (decide (j < i)))
def gGe := gI2 fun i j => some (.bl (decide (j ≤ i)))
section
variable {K : PySem.W.Frag}
theorem snd_sub : Snd2 K true (rI0 fun i j => .int (i - j)) gSub := snd_rI0 fun _ _ => rfl
def rFdiv : R2 := fun x y H Q => rI CDiv (fun i j => .int (i / j)) x y H Q ∨ rI CDivW (fun i j => .int (i / j)) x y H Q
theorem snd_fdiv : Snd2 K true rFdiv gFdiv := fun G H x y d1 d2 d e h1 h2 q Q k => by
  obtain ⟨i, j, rfl, rfl, qq⟩ := gI2_some q
  split at qq
  · cases qq
    rename_i hc
    rcases hc with hc | hc
    · exact .inl ⟨i, j, h1.int_inv, h2.int_inv, hc, k_sc k rfl⟩
    · unfold divW at hc
      rw [Bool.and_eq_true] at hc
      exact .inr ⟨i, j, h1.int_inv, h2.int_inv, ⟨of_decide_eq_true hc.1, of_decide_eq_true hc.2⟩, k_sc k rfl⟩
  · cases qq
theorem snd_mod : Snd2 K true (rI (fun _ j => 0 < j) fun i j => .int (i % j)) gMod := snd_rI (C := fun _ j => 0 < j) fun _ _ => rfl
theorem snd_pow : Snd2 K true (rI CPow fun i j => .int (i ^ j.toNat)) gPow := snd_rI fun _ _ => rfl
theorem snd_shr : Snd2 K true (rI (fun _ j => 0 ≤ j) fun i j => .int (i / 2 ^ j.toNat)) gShr := snd_rI (C := fun _ j => 0 ≤ j) fun _ _ => rfl
theorem snd_lt : Snd2 K true (rI0 fun i j => .bl (decide (i < j))) gLt := snd_rI0 fun _ _ => rfl
theorem snd_le : Snd2 K true (rI0 fun i j => .bl (decide (i ≤ j))) gLe := snd_rI0 fun _ _ => rfl
theorem snd_gt : Snd2 K true (rI0 fun i j => .bl (decide (j < i))) gGt := snd_rI0 fun _ _ => rfl
theorem snd_ge : Snd2 K true (rI0 fun i j => .bl (decide (j ≤ i))) gGe := snd_rI0 fun _ _ => rfl
end
theorem gI2_sc {f : Int → Int → Option D} (hf : ∀ i j d, f i j = some d → d.sc = true) {a b : M D} : ScF (e2 (gI2 f) a b) := fun env d env' q => by
  obtain ⟨d1, env1, q1, q⟩ := bnd_ok q
  obtain ⟨d2, env2, q2, q⟩ := bnd_ok q
  obtain ⟨qg, rfl⟩ := lift_ok q
  obtain ⟨i, j, _, _, q⟩ := gI2_some qg
  exact hf i j d q
theorem e2_sc {g : D → D → Option D} (hg : ∀ x y d, g x y = some d → d.sc = true) {a b : M D} : ScF (e2 g a b) := fun env d env' q => by
  obtain ⟨d1, env1, q1, q⟩ := bnd_ok q
  obtain ⟨d2, env2, q2, q⟩ := bnd_ok q
  obtain ⟨qg, rfl⟩ := lift_ok q
  exact hg _ _ _ qg
theorem e1_sc {g : D → Option D} (hg : ∀ x d, g x = some d → d.sc = true) {a : M D} : ScF (e1 g a) := fun env d env' q => by
  obtain ⟨d1, env1, q1, q⟩ := bnd_ok q
  obtain ⟨qg, rfl⟩ := lift_ok q
  exact hg _ _ qg
theorem eN_sc {g : List D → Option D} (hg : ∀ x d, g x = some d → d.sc = true) {a : M (List D)} : ScF (eN g a) := fun env d env' q => by
  obtain ⟨d1, env1, q1, q⟩ := bnd_ok q
  obtain ⟨qg, rfl⟩ := lift_ok q
  exact hg _ _ qg
def gAdd : D → D → Option D
  | .int i, .int j => some (.int (i + j))
  | .str a, .str b => if a.length + b.length ≤ LIM then some (.str (a ++ b)) else none
  | .lst a, .lst b => if a.length + b.length ≤ LIM then some (.lst (a ++ b)) else none
  | _, _ => none
def rAdd3 : R2 := fun x y H Q => rI0 (fun i j => .int (i + j)) x y H Q ∨ (∃ i j, x = .str i ∧ y = .str j ∧ i.length + j.length ≤ sizeLine ∧ Q (.str (i ++ j)) H) ∨ rCat x y H Q
theorem op_add3 {X : Cx} : OpR X (binaryOp .Add) rAdd3 := op_add.or (op_add_str.or op_cat)
theorem snd_add {K : PySem.W.Frag} : Snd2 K true rAdd3 gAdd := fun G H x y d1 d2 d e h1 h2 q Q k => by
  unfold gAdd at q
  split at q
  · cases q; exact .inl ⟨_, _, h1.int_inv, h2.int_inv, k_sc k rfl⟩
  · split at q
    · cases q
      rename_i hl
      exact .inr (.inl ⟨_, _, h1.str_inv, h2.str_inv, lim_sz hl, k_sc k rfl⟩)
    · cases q
  · split at q
    · cases q
      rename_i hl
      obtain ⟨a, xs, rfl, s1, r1⟩ := h1.lst_inv
      obtain ⟨b, ys, rfl, s2, r2⟩ := h2.lst_inv
      refine .inr (.inr ⟨a, b, xs, ys, rfl, rfl, e _ _ s1, e _ _ s2, by rw [r1.length, r2.length]; exact lim_sz hl, fun p hp => k _ _ (Ex.new hp) (new_rp e hp (r1.append r2)) (new_nn hp (r1.append r2))⟩)
    · cases q
  · cases q
theorem RpL.rep {K : PySem.W.Frag} {x : Bool} {G : Hp} {vs : List V} {ds : List D} (h : RpL K x G vs ds) : ∀ k : Nat, RpL K x G (List.replicate k vs).flatten (List.replicate k ds).flatten
  | 0 => .nil
  | k + 1 => by
    rw [List.replicate_succ, List.replicate_succ, List.flatten_cons, List.flatten_cons]
    exact h.append (RpL.rep h k)
def repS (z : Str) (n : Nat) : Str := ⟨(List.replicate n z.cps.toList).flatten.toArray⟩
theorem foldl_cps (a : Array Nat) : ∀ (n : Nat) (b : Array Nat), ((List.replicate n a).foldl (· ++ ·) b) = b ++ (List.replicate n a.toList).flatten.toArray
  | 0, b => by simp
  | n + 1, b => by
    rw [List.replicate_succ, List.foldl_cons, foldl_cps a n, List.replicate_succ, List.flatten_cons]
    apply Array.ext'
    simp
def rSRep : R2 := fun x y H Q => ∃ (z : Str) (k : Int), x = .str z ∧ y = .int k ∧ -(2 ^ 63) ≤ k ∧ k < 2 ^ 31 ∧ z.length * k.toNat ≤ LIM ∧ Q (.str (repS z k.toNat)) H
theorem op_srep {X : Cx} : OpR X (binaryOp .Mult) rSRep := by
  intro pp s σ H x y v u Q I rx ry h
  obtain ⟨z, k, rfl, rfl, h1, h2, h3, q⟩ := h
  obtain ⟨t, rfl⟩ := rx
  obtain ⟨t', rfl⟩ := ry
  have hL : (LIM : Nat) = 100000 := rfl
  refine PySem.P.mul_str ?_ (fun hn _ => ?_) (fun hn _ => ?_) ?_
  · rw [decide_eq_false (by omega), decide_eq_false (by omega)]; rfl
  · have hk : (k.toNat : Int) = k := Int.toNat_of_nonneg (by omega)
    have : (z.length : Int) ≤ (2 ^ 63 - 1) / k := by
      apply Int.le_ediv_of_mul_le (by omega)
      rw [← hk]
      have : ((z.length * k.toNat : Nat) : Int) ≤ 100000 := by omega
      rw [Int.natCast_mul] at this
      omega
    omega
  · unfold PySem.Builtin.Str.tooLong
    exact decide_eq_false (by have : (100000 : Nat) ≤ sizeLine := by decide
                              omega)
  · split
    · rename_i hn
      have e : k.toNat = 0 := by omega
      rw [e] at q
      exact ⟨by decide, .str (repS z 0), H, I.tok _, ⟨_, rfl⟩, q⟩
    · rename_i hn
      split
      · rename_i hc
        rw [Bool.or_eq_true] at hc
        have e : repS z k.toNat = z := by
          rcases hc with hc | hc
          · have : k = 1 := by simpa using hc
            subst this
            unfold repS
            show (⟨([z.cps.toList] : List (List Nat)).flatten.toArray⟩ : Str) = z
            simp
          · have h0 : z.cps.toList = [] := by
              have : z.length = 0 := by simpa using hc
              apply List.eq_nil_of_length_eq_zero
              rw [Array.length_toList]; exact this
            unfold repS
            rw [h0]
            have : ∀ n : Nat, (List.replicate n ([] : List Nat)).flatten = [] := fun n => by simp
            rw [this]
            obtain ⟨⟨l⟩⟩ := z
            simp at h0
            rw [h0]
        rw [e] at q
        exact ⟨.str z, H, I, ⟨_, rfl⟩, q⟩
      · have e : (⟨(List.replicate k.toNat z.cps).foldl (· ++ ·) #[]⟩ : Str) = repS z k.toNat := by
          unfold repS
          rw [foldl_cps]
          simp
        rw [e]
        refine ⟨?_, .str (repS z k.toNat), H, I.tok _, ⟨_, rfl⟩, q⟩
        show (repS z k.toNat).cps.size ≤ sizeLine
        unfold repS
        rw [List.size_toArray, List.length_flatten, List.map_replicate, List.sum_replicate_nat, Array.length_toList]
        have hz : z.cps.size = z.length := rfl
        have : (100000 : Nat) ≤ sizeLine := by decide
        rw [hz, Nat.mul_comm]
        omega
def mulOk (i j : Int) : Bool := decide (CMul i j) || decide (i.natAbs.log2 + j.natAbs.log2 < 1000000)
def gMul : D → D → Option D
  | .int i, .int j => if mulOk i j then some (.int (i * j)) else none
  | .lst a, .int k => if a.length * k.toNat ≤ LIM ∧ -(2 ^ 63) ≤ k ∧ k < 2 ^ 63 then some (.lst (List.replicate k.toNat a).flatten) else none
  | .str z, .int k => if z.length * k.toNat ≤ LIM ∧ -(2 ^ 63) ≤ k ∧ k < 2 ^ 31 then some (.str (repS z k.toNat)) else none
  | _, _ => none
def rMul2 : R2 := fun x y H Q => rSRep x y H Q ∨ (rI CMul (fun i j => .int (i * j)) x y H Q ∨ rI CMulW (fun i j => .int (i * j)) x y H Q) ∨ rRep x y H Q
theorem op_mul2 {X : Cx} : OpR X (binaryOp .Mult) rMul2 := op_srep.or ((op_mul.or op_mulW).or op_rep)
theorem snd_mul {K : PySem.W.Frag} : Snd2 K true rMul2 gMul := fun G H x y d1 d2 d e h1 h2 q Q k => by
  unfold gMul at q
  split at q
  · split at q
    · cases q
      rename_i hc
      rcases Bool.or_eq_true_iff.mp hc with hc | hc
      · exact .inr (.inl (.inl ⟨_, _, h1.int_inv, h2.int_inv, of_decide_eq_true hc, k_sc k rfl⟩))
      · exact .inr (.inl (.inr ⟨_, _, h1.int_inv, h2.int_inv, (by unfold CMulW; exact of_decide_eq_true hc), k_sc k rfl⟩))
    · cases q
  · split at q
    · cases q
      rename_i hc
      obtain ⟨hc, hk1, hk2⟩ := hc
      obtain ⟨a, xs, rfl, s1, r1⟩ := h1.lst_inv
      refine .inr (.inr ⟨a, _, xs, rfl, h2.int_inv, e _ _ s1, hk1, hk2, by rw [r1.length]; exact lim_sz hc, fun p hp => k _ _ (Ex.new hp) (new_rp e hp (r1.rep _)) (new_nn hp (r1.rep _))⟩)
    · cases q
  · split at q
    · cases q
      rename_i hc
      obtain ⟨hc, hk1, hk2⟩ := hc
      exact .inl ⟨_, _, h1.str_inv, h2.int_inv, hk1, hk2, hc, k_sc k rfl⟩
    · cases q
  · cases q
def gNeg : D → Option D
  | .int i => some (.int (-i))
  | _ => none
theorem snd_neg {K : PySem.W.Frag} : Snd1 K true (rU fun i => .int (-i)) gNeg := fun G H x d1 d e h1 q Q k => by
  unfold gNeg at q
  split at q
  · cases q; exact ⟨_, h1.int_inv, k_sc k rfl⟩
  · cases q
mutual
def D.toP : D → Option PyData
  | .non => some .none
  | .bl b => some (.bool b)
  | .int i => some (.int i)
  | .str x => some (.str x)
  | .lst xs => (toPs xs).map .list
  | .tup xs => (toPs xs).map .tuple
  | _ => none
def toPs : List D → Option (List PyData)
  | [] => some []
  | x :: xs => match D.toP x, toPs xs with
    | some a, some b => some (a :: b)
    | _, _ => none
end
mutual
theorem Rp.dp {K : PySem.W.Frag} {G H : Hp} (e : Ex G H) : ∀ {v : V} {d : D} {p : PyData}, Rp K true G v d → d.toP = some p → Dp K H v p
  | _, .non, _, h, q => by cases q; rw [h.non_inv]; exact .non
  | _, .bl b, _, h, q => by cases q; rw [h.bl_inv]; exact .bl b
  | _, .int i, _, h, q => by cases q; rw [h.int_inv]; exact .int i
  | _, .str x, _, h, q => by cases q; rw [h.str_inv]; exact .str x
  | _, .lst ds, p, h, q => by
    cases h with
    | sc z => cases z
    | lst s r =>
      rw [D.toP] at q
      cases z : toPs ds with
      | none => rw [z] at q; cases q
      | some ps =>
        rw [z] at q
        cases q
        exact .lst (.inl (.inl (e _ _ s))) (RpL.dp e r z)
  | _, .tup ds, p, h, q => by
    cases h with
    | sc z => cases z
    | tup s r =>
      rw [D.toP] at q
      cases z : toPs ds with
      | none => rw [z] at q; cases q
      | some ps =>
        rw [z] at q
        cases q
        exact .tup (.inl (.inl (e _ _ s))) (RpL.dp e r z)
  | _, .dic _, _, _, q => by rw [D.toP] at q <;> first | cases q | (intros; rintro ⟨⟩)
  | _, .dit _, _, _, q => by rw [D.toP] at q <;> first | cases q | (intros; rintro ⟨⟩)
  | _, .exc _, _, _, q => by rw [D.toP] at q <;> first | cases q | (intros; rintro ⟨⟩)
theorem RpL.dp {K : PySem.W.Frag} {G H : Hp} (e : Ex G H) : ∀ {vs : List V} {ds : List D} {ps : List PyData}, RpL K true G vs ds → toPs ds = some ps → DpAll K H vs ps
  | _, _, _, .nil, q => by rw [toPs] at q; cases q; exact .nil
  | _, d :: ds, ps, .cons h r, q => by
    rw [toPs] at q
    cases z1 : D.toP d with
    | none => rw [z1] at q; cases q
    | some a =>
      cases z2 : toPs ds with
      | none => rw [z1, z2] at q; cases q
      | some b =>
        rw [z1, z2] at q
        cases q
        exact .cons (Rp.dp e h z1) (RpL.dp e r z2)
end
def deq (a b : D) : Option Bool := match a, b with
  | .int i, .int j => some (decide (i = j))
  | .str x, .str y => some (decide (x = y))
  | a, b => match a.toP, b.toP with
    | some p, some q => if SeqAt.shaped p && SeqAt.shaped q then some (PyData.eqv p q) else none
    | _, _ => none
def gEq (a b : D) : Option D := (deq a b).map .bl
def gNe (a b : D) : Option D := (deq a b).map fun k => .bl (!k)
def rEq2 (K : PySem.W.Frag) : R2 := fun x y H Q => rEq x y H Q ∨ rEqD K x y H Q
def rNe2 (K : PySem.W.Frag) : R2 := fun x y H Q => rNe x y H Q ∨ rNeD K x y H Q
theorem op_eq2 {X : Cx} (hu : X.A.units + 64 < cLine) : OpR X (compareOp .Eq) (rEq2 X.K) := op_eq.or (op_eqD hu)
theorem op_ne2 {X : Cx} (hu : X.A.units + 64 < cLine) : OpR X (compareOp .NotEq) (rNe2 X.K) := op_ne.or (op_neD hu)
theorem deq_cases {K : PySem.W.Frag} {G H : Hp} {x y : V} {a b : D} {k : Bool} (e : Ex G H) (h1 : Rp K true G x a) (h2 : Rp K true G y b) (q : deq a b = some k) :
    (scal x y = true ∧ decide (x = y) = k) ∨ ∃ p p', Dp K H x p ∧ Dp K H y p' ∧ SeqAt.shaped p = true ∧ SeqAt.shaped p' = true ∧ PyData.eqv p p' = k := by
  unfold deq at q
  split at q
  · cases q
    rw [h1.int_inv, h2.int_inv]
    refine .inl ⟨rfl, ?_⟩
    rw [Bool.eq_iff_iff]; simp
  · cases q
    rw [h1.str_inv, h2.str_inv]
    refine .inl ⟨rfl, ?_⟩
    rw [Bool.eq_iff_iff]; simp
  · split at q
    · split at q
      · cases q
        rename_i p p' z1 z2 hs
        rw [Bool.and_eq_true] at hs
        exact .inr ⟨p, p', h1.dp e z1, h2.dp e z2, hs.1, hs.2, rfl⟩
      · cases q
    · cases q
theorem snd_eq {K : PySem.W.Frag} : Snd2 K true (rEq2 K) gEq := fun G H x y d1 d2 d e h1 h2 q Q k => by
  unfold gEq at q
  cases z : deq d1 d2 with
  | none => rw [z] at q; cases q
  | some b =>
    rw [z] at q
    cases q
    rcases deq_cases e h1 h2 z with ⟨s, t⟩ | ⟨p, p', a1, a2, a3, a4, t⟩
    · exact .inl ⟨s, by rw [t]; exact k_sc k rfl⟩
    · exact .inr ⟨p, p', a1, a2, a3, a4, by rw [t]; exact k_sc k rfl⟩
theorem snd_ne {K : PySem.W.Frag} : Snd2 K true (rNe2 K) gNe := fun G H x y d1 d2 d e h1 h2 q Q k => by
  unfold gNe at q
  cases z : deq d1 d2 with
  | none => rw [z] at q; cases q
  | some b =>
    rw [z] at q
    cases q
    rcases deq_cases e h1 h2 z with ⟨s, t⟩ | ⟨p, p', a1, a2, a3, a4, t⟩
    · exact .inl ⟨s, by rw [t]; exact k_sc k rfl⟩
    · exact .inr ⟨p, p', a1, a2, a3, a4, by rw [t]; exact k_sc k rfl⟩
def isNon : D → Option Bool
  | .non => some true
  | _ => some false
theorem isNon_v {K : PySem.W.Frag} {G : Hp} {x : V} {d : D} {k : Bool} (h : Rp K true G x d) (q : isNon d = some k) : decide (x = .non) = k := by
  cases h with
  | sc z => cases d <;> cases q <;> cases z <;> rfl
  | lst _ _ => cases q; rfl
  | tup _ _ => cases q; rfl
  | dic _ _ _ => cases q; rfl
  | dit _ _ _ => cases q; rfl
  | exc _ => cases q; rfl
def gIsN (a b : D) : Option D := match b with
  | .non => (isNon a).map .bl
  | _ => none
def gNotN (a b : D) : Option D := match b with
  | .non => (isNon a).map fun k => .bl (!k)
  | _ => none
theorem snd_isN {K : PySem.W.Frag} : Snd2 K true (fun x y H Q => y = .non ∧ Q (.bl (decide (x = .non))) H) gIsN := fun G H x y d1 d2 d e h1 h2 q Q k => by
  unfold gIsN at q
  split at q
  · cases z : isNon d1 with
    | none => rw [z] at q; cases q
    | some b => rw [z] at q; cases q; exact ⟨h2.non_inv, by rw [isNon_v h1 z]; exact k_sc k rfl⟩
  · cases q
theorem snd_notN {K : PySem.W.Frag} : Snd2 K true (fun x y H Q => y = .non ∧ Q (.bl (!decide (x = .non))) H) gNotN := fun G H x y d1 d2 d e h1 h2 q Q k => by
  unfold gNotN at q
  split at q
  · cases z : isNon d1 with
    | none => rw [z] at q; cases q
    | some b => rw [z] at q; cases q; exact ⟨h2.non_inv, by rw [isNon_v h1 z]; exact k_sc k rfl⟩
  · cases q
theorem atI_rp {K : PySem.W.Frag} {x : Bool} {G : Hp} {xs : List V} {ds : List D} {i : Int} {d : D} (h : RpL K x G xs ds) (q : atI ds i = some d) : ∃ v, atI xs i = some v ∧ Rp K x G v d := by
  unfold atI at q ⊢
  rw [h.length]
  cases z : ixN ds.length i with
  | none => rw [z] at q; cases q
  | some j =>
    rw [z] at q
    exact h.get q
def gIx : D → D → Option D
  | .lst ds, .int i => atI ds i
  | .tup ds, .int i => atI ds i
  | .str z, .int i => if z.length ≤ LIM then (atI z.cps.toList i).map fun c => .str ⟨#[c]⟩ else none
  | _, _ => none
theorem snd_ix {K : PySem.W.Frag} : Snd2 K false (rIx K) gIx := fun G H x y d1 d2 d e h1 h2 q Q k => by
  unfold gIx at q
  split at q
  · obtain ⟨a, xs, rfl, s1, r1⟩ := h1.lst_inv
    obtain ⟨v, hv, hr⟩ := atI_rp r1 q
    exact .inl ⟨a, xs, _, v, rfl, h2.int_inv, .inl (.inl (e _ _ s1)), hv, k v H (Ex.refl H) (hr.mono (Ex.grow e (Ex.refl H))) fun z => by cases z⟩
  · obtain ⟨a, xs, rfl, s1, r1⟩ := h1.tup_inv
    obtain ⟨v, hv, hr⟩ := atI_rp r1 q
    exact .inr (.inl ⟨a, xs, _, v, rfl, h2.int_inv, .inl (.inl (e _ _ s1)), hv, k v H (Ex.refl H) (hr.mono (Ex.grow e (Ex.refl H))) fun z => by cases z⟩)
  · split at q
    · rename_i z i hl
      cases zz : atI z.cps.toList i with
      | none => rw [zz] at q; cases q
      | some c =>
        rw [zz] at q
        cases q
        exact .inr (.inr ⟨_, _, c, h1.str_inv, h2.int_inv, lim_sz hl, zz, k_sc k rfl⟩)
    · cases q
  · cases q
theorem se_ix {X : Cx} {cf : Cf} {W : WX} {c : Cls} {n1 n2 : Bool} {a b : Expr} {ta tb : TE} {fa fb : M D} {pos : Pos} (hK : cf.K = X.K) (ha : SE X cf W c n1 a ta fa) (hb : SE X cf W c n2 b tb fb) (hs : PlainIx b) : SE X cf W c false (.Subscript a b pos) (tOp (rIx cf.K) ta tb) (e2 gIx fa fb) := by
  refine ⟨?_, sd_op2 snd_ix ha.s hb.s⟩
  rw [hK]
  exact pe_ix ix_seq ha.p hb.p hs
def asI : D → Option (Option Int)
  | .int i => some (some i)
  | _ => none
def oNone : M (Option Int) := ret none
def oSome (f : M D) : M (Option Int) := bnd f fun d => lift (asI d)
def cutA {α : Type} (xs : List α) (lo hi : Option Int) : List α := (xs.drop (HT.sIx xs.length 0 lo)).take (HT.sIx xs.length xs.length hi - HT.sIx xs.length 0 lo)
def gSl : D → Option Int → Option Int → Option D
  | .lst ds, l, h => some (.lst (cutA ds l h))
  | .str z, l, h => if z.length ≤ LIM then some (.str (cutS z l h)) else none
  | _, _, _ => none
def eSl (f : M D) (lo hi : M (Option Int)) : M D := bnd f fun x => bnd lo fun l => bnd hi fun h => lift (gSl x l h)
def SdO (cf : Cf) (W : WX) (to : TO) (f : M (Option Int)) : Prop :=
  ∀ (R : Rs) (Hs : Hp) (env : PEnv) (σ : L2.St) (H : Hp) (F : Nat → List Addr) (wf : List Addr), Rel cf R Hs env σ H F wf → ∀ Q : Option Int → Hp → Prop,
    match f env with
    | .ok o env' => (∀ Hs' H', Stp cf wf env Hs H env' Hs' H' → Rel cf R Hs' env' σ H' F wf → Q o H') → to σ H Q
    | .ex x env' => (∀ Hs' H', Stp cf wf env Hs H env' Hs' H' → Rel cf R Hs' env' σ H' F wf → W (cf.cv x) none σ H') → to σ H Q
    | .stuck => True
structure SO (X : Cx) (cf : Cf) (W : WX) (e : Option Expr) (t : TO) (f : M (Option Int)) : Prop where
  p : PO X e t
  s : SdO cf W t f
section
variable {X : Cx} {cf : Cf} {W : WX} {c : Cls} {n n1 n2 : Bool}
theorem so_none : SO X cf W none tNoPart oNone := ⟨po_none, fun R Hs env σ H F wf r Q k => k Hs H Stp.refl r⟩
theorem so_some {e : Expr} {te : TE} {f : M D} (h : SE X cf W c n e te f) : SO X cf W (some e) (tPart te) (oSome f) := by
  obtain ⟨p, s⟩ := h
  refine ⟨po_some p, fun R Hs env σ H F wf r Q => ?_⟩
  cases q : oSome f env with
  | ok o env' =>
    intro k
    obtain ⟨d, env1, q1, q⟩ := bnd_ok q
    obtain ⟨qg, rfl⟩ := lift_ok q
    unfold asI at qg
    split at qg
    · cases qg
      exact s.ok r q1 fun v Hs1 H1 s1 r1 p1 _ => ⟨_, p1.int_inv, k Hs1 H1 s1 r1⟩
    · cases qg
  | ex x env' =>
    intro k
    rcases bnd_ex q with q | ⟨d1, env1, q1, q⟩
    · exact s.exn r q k
    · exact (lift_ex q).elim
  | stuck => trivial
theorem SdO.ok {to : TO} {f : M (Option Int)} {R : Rs} {Hs : Hp} {env env' : PEnv} {σ : L2.St} {H : Hp} {F : Nat → List Addr} {wf : List Addr} (s : SdO cf W to f) (r : Rel cf R Hs env σ H F wf) {d : Option Int} (q : f env = .ok d env') {Q : Option Int → Hp → Prop} (k : ∀ Hs' H', Stp cf wf env Hs H env' Hs' H' → Rel cf R Hs' env' σ H' F wf → Q d H') : to σ H Q := by
  have h := s R Hs env σ H F wf r Q
  rw [q] at h
  exact h k
theorem SdO.exn {to : TO} {f : M (Option Int)} {R : Rs} {Hs : Hp} {env env' : PEnv} {σ : L2.St} {H : Hp} {F : Nat → List Addr} {wf : List Addr} (s : SdO cf W to f) (r : Rel cf R Hs env σ H F wf) {x : Str} (q : f env = .ex x env') {Q : Option Int → Hp → Prop} (k : ∀ Hs' H', Stp cf wf env Hs H env' Hs' H' → Rel cf R Hs' env' σ H' F wf → W (cf.cv x) none σ H') : to σ H Q := by
  have h := s R Hs env σ H F wf r Q
  rw [q] at h
  exact h k
theorem cutV_rp {K : PySem.W.Frag} {x : Bool} {G : Hp} {xs : List V} {ds : List D} (h : RpL K x G xs ds) (lo hi : Option Int) : RpL K x G (cutV xs lo hi) (cutA ds lo hi) := by
  unfold cutV cutA
  rw [h.length]
  exact (h.drop _).take _
def rSl2 (K : PySem.W.Frag) : V → Option Int → Option Int → Hp → VK → Prop := fun x lo hi H Q => rSlL K x lo hi H Q ∨ rSlS x lo hi H Q
theorem snd_sl {K : PySem.W.Frag} {G H : Hp} {x : V} {d1 d : D} {l h : Option Int} (e : Ex G H) (h1 : Rp K true G x d1) (q : gSl d1 l h = some d) (Q : VK) (k : ∀ v H', Ex H H' → Rp K true (grow G H H') v d → Nn K true H H' v d → Q v H') : rSl2 K x l h H Q := by
  unfold gSl at q
  split at q
  · cases q
    obtain ⟨a, xs, rfl, s1, r1⟩ := h1.lst_inv
    exact .inl ⟨a, xs, rfl, .inl (.inl (e _ _ s1)), fun p hp => k _ _ (Ex.new hp) (new_rp e hp (cutV_rp r1 _ _)) (new_nn hp (cutV_rp r1 _ _))⟩
  · split at q
    · cases q
      rename_i hl
      exact .inr ⟨_, h1.str_inv, lim_sz hl, k_sc k rfl⟩
    · cases q
  · cases q
theorem se_sl {e : Expr} {lo hi : Option Expr} {te : TE} {tl th : TO} {f : M D} {fl fh : M (Option Int)} {p2 pos : Pos} (hK : cf.K = X.K) (h : SE X cf W c n1 e te f) (hl : SO X cf W lo tl fl) (hh : SO X cf W hi th fh) : SE X cf W c true (.Subscript e (.Slice lo hi none p2) pos) (tSl (rSl2 cf.K) te tl th) (eSl f fl fh) := by
  rw [hK]
  obtain ⟨p, s⟩ := h
  obtain ⟨p2, s2⟩ := hl
  obtain ⟨p3, s3⟩ := hh
  refine ⟨pe_slice (r := rSl2 X.K) (sl_list.or sl_str) p p2 p3, Sd.mk (fun R Hs env σ H F wf r d env' q Q k => ?_) (fun R Hs env σ H F wf r x env' q Q k => ?_)⟩
  · obtain ⟨d1, env1, q1, q⟩ := bnd_ok q
    obtain ⟨d2, env2, q2, q⟩ := bnd_ok q
    obtain ⟨d3, env3, q3, q⟩ := bnd_ok q
    obtain ⟨qg, rfl⟩ := lift_ok q
    exact s.ok r q1 fun v Hs1 H1 s1 r1 p1 _ => s2.ok r1 q2 fun Hs2 H2 s2 r2 => s3.ok r2 q3 fun Hs3 H3 s3 r3 => by
      show rSl2 X.K v d2 d3 H3 Q
      rw [← hK]
      exact snd_sl (rg_sub (H0 := R.H0) (Hst := H) (c := c) (wf := wf) r3.exs) ((p1.mono (rg_step s2)).mono (rg_step s3)) qg Q fun v4 H4 x p nn => fin_op ((s1.trans s2).trans s3) r3 x p nn k
  · rcases bnd_ex q with q | ⟨d1, env1, q1, q⟩
    · exact s.exn r q k
    · rcases bnd_ex q with q | ⟨d2, env2, q2, q⟩
      · exact s.ok r q1 fun v Hs1 H1 s1 r1 p1 _ => s2.exn r1 q fun Hs2 H2 s2 r2 => k Hs2 H2 (s1.trans s2) r2
      · rcases bnd_ex q with q | ⟨d3, env3, q3, q⟩
        · exact s.ok r q1 fun v Hs1 H1 s1 r1 p1 _ => s2.ok r1 q2 fun Hs2 H2 s2 r2 => s3.exn r2 q fun Hs3 H3 s3 r3 => k Hs3 H3 ((s1.trans s2).trans s3) r3
        · exact (lift_ex q).elim
def gRev : D → Option D
  | .lst ds => some (.lst ds.reverse)
  | _ => none
theorem snd_rev {K : PySem.W.Frag} : Snd1 K true (fun x H1 Q => ∃ a xs, x = .ref a ∧ SqL K H1 a xs ∧ ∀ p, H1 p = none → Q (.ref p) (upd H1 p (.lst xs.reverse))) gRev := fun G H x d1 d e h1 q Q k => by
  unfold gRev at q
  split at q
  · cases q
    obtain ⟨a, xs, rfl, s1, r1⟩ := h1.lst_inv
    exact ⟨a, xs, rfl, .inl (.inl (e _ _ s1)), fun p hp => k _ _ (Ex.new hp) (new_rp e hp r1.rev) (new_nn hp r1.rev)⟩
  · cases q
theorem se_rev {e : Expr} {te : TE} {f : M D} {k : Nat} {p1 p2 p3 pos : Pos} (hK : cf.K = X.K) (h : SE X cf W c n1 e te f) : SE X cf W c true (.Subscript e (.Slice none none (some (.UnaryOp .USub (.Constant (.int 1) k p1) p2)) p3) pos) (tRevL cf.K te) (e1 gRev f) := by
  rw [hK]
  obtain ⟨p, s⟩ := h
  exact ⟨pe_revL p, sd_op1 (r := fun x H1 Q => ∃ a xs, x = .ref a ∧ SqL X.K H1 a xs ∧ ∀ p, H1 p = none → Q (.ref p) (upd H1 p (.lst xs.reverse))) (by rw [← hK]; exact snd_rev) s⟩
end
def gLen : List D → Option D
  | [.lst ds] => some (.int ds.length)
  | [.tup ds] => some (.int ds.length)
  | [.str z] => if z.length ≤ LIM then some (.int z.length) else none
  | _ => none
theorem RpL.one {K : PySem.W.Frag} {x : Bool} {G : Hp} {xs : List V} {d : D} (h : RpL K x G xs [d]) : ∃ v, xs = [v] ∧ Rp K x G v d := by
  cases h with
  | cons h r => cases r; exact ⟨_, rfl, h⟩
theorem RpL.two {K : PySem.W.Frag} {x : Bool} {G : Hp} {xs : List V} {d e : D} (h : RpL K x G xs [d, e]) : ∃ v w, xs = [v, w] ∧ Rp K x G v d ∧ Rp K x G w e := by
  cases h with
  | cons h r =>
    obtain ⟨w, rfl, h2⟩ := r.one
    exact ⟨_, w, rfl, h, h2⟩
theorem snd_len {K : PySem.W.Frag} : SndN K true (fun xs H Q => ∃ x n, xs = [x] ∧ LenV K x H n ∧ Q (.int n) H) gLen := fun G H xs ds d e h q Q k => by
  unfold gLen at q
  split at q
  · cases q
    obtain ⟨v, rfl, hq⟩ := h.one
    obtain ⟨a, xs, rfl, s1, r1⟩ := hq.lst_inv
    exact ⟨_, _, rfl, .inl ⟨xs, .inl (.inl (e _ _ s1)), rfl⟩, by rw [r1.length]; exact k_sc k rfl⟩
  · cases q
    obtain ⟨v, rfl, hq⟩ := h.one
    obtain ⟨a, xs, rfl, s1, r1⟩ := hq.tup_inv
    exact ⟨_, _, rfl, .inr ⟨xs, .inl (.inl (e _ _ s1)), rfl⟩, by rw [r1.length]; exact k_sc k rfl⟩
  · split at q
    · cases q
      rename_i hl
      obtain ⟨v, rfl, hq⟩ := h.one
      rw [hq.str_inv]
      exact ⟨_, _, rfl, ⟨lim_sz hl, rfl⟩, k_sc k rfl⟩
    · cases q
  · cases q
def gMax2 : List D → Option D
  | [.int i, .int j] => some (.int (if j > i then j else i))
  | _ => none
def gMin2 : List D → Option D
  | [.int i, .int j] => some (.int (if j < i then j else i))
  | _ => none
theorem snd_max2 {K : PySem.W.Frag} : SndN K true (fun xs H Q => ∃ i j, xs = [.int i, .int j] ∧ Q (.int (if j > i then j else i)) H) gMax2 := fun G H xs ds d e h q Q k => by
  unfold gMax2 at q
  split at q
  · cases q
    obtain ⟨v, w, rfl, h1, h2⟩ := h.two
    exact ⟨_, _, by rw [h1.int_inv, h2.int_inv], k_sc k rfl⟩
  · cases q
theorem snd_min2 {K : PySem.W.Frag} : SndN K true (fun xs H Q => ∃ i j, xs = [.int i, .int j] ∧ Q (.int (if j < i then j else i)) H) gMin2 := fun G H xs ds d e h q Q k => by
  unfold gMin2 at q
  split at q
  · cases q
    obtain ⟨v, w, rfl, h1, h2⟩ := h.two
    exact ⟨_, _, by rw [h1.int_inv, h2.int_inv], k_sc k rfl⟩
  · cases q
def gInt1 : List D → Option D
  | [.int i] => some (.int i)
  | [.bl b] => some (.int (if b then 1 else 0))
  | _ => none
theorem snd_int1 {K : PySem.W.Frag} : SndN K true (fun xs H Q => (∃ i, xs = [.int i] ∧ Q (.int i) H) ∨ ∃ k, xs = [.bl k] ∧ Q (.int (if k then 1 else 0)) H) gInt1 := fun G H xs ds d e h q Q k => by
  unfold gInt1 at q
  split at q
  · cases q
    obtain ⟨v, rfl, hq⟩ := h.one
    exact .inl ⟨_, by rw [hq.int_inv], k_sc k rfl⟩
  · cases q
    obtain ⟨v, rfl, hq⟩ := h.one
    exact .inr ⟨_, by rw [hq.bl_inv], k_sc k rfl⟩
  · cases q
def chV (z : Str) : List V := z.cps.toList.map fun c => V.str ⟨#[c]⟩
def chD (z : Str) : List D := z.cps.toList.map fun c => D.str ⟨#[c]⟩
theorem chs_rp {K : PySem.W.Frag} {x : Bool} {G : Hp} : ∀ l : List Nat, RpL K x G (l.map fun c => V.str ⟨#[c]⟩) (l.map fun c => D.str ⟨#[c]⟩)
  | [] => .nil
  | c :: l => .cons (.str _) (chs_rp l)
def rListS : List V → Hp → VK → Prop := fun xs H Q => ∃ z : Str, xs = [.str z] ∧ z.length ≤ LIM ∧ ∀ l, H l = none → Q (.ref l) (upd H l (.lst (chV z)))
theorem call_listS {X : Cx} (hc : X.calm = true) : CallR X (.type "list") rListS := by
  intro pp s σ H xs us Q I r h
  obtain ⟨z, rfl, hz, q⟩ := h
  obtain ⟨u, rfl, ru⟩ := r.one
  obtain ⟨t, rfl⟩ := ru
  have hsz : z.cps.size ≤ sizeLine := lim_sz hz
  refine PySem.call_list_str (I.ok.hd hc) z t (fun h' tk acc c' hk e hi => ?_) hsz
  have hl : acc.toList.length = z.cps.size := by rw [Array.length_toList]; exact hi.1
  have hv : Vals (chV z) acc.toList := by
    have e1 : chV z = (List.range acc.toList.length).map fun j => V.str ⟨#[z.cps.toList.getD j 0]⟩ := by
      unfold chV
      apply List.ext_getElem
      · rw [List.length_map, List.length_map, List.length_range, hl, Array.length_toList]
      · intro j h1 h2
        rw [List.length_map] at h1
        rw [List.getElem_map, List.getElem_map, List.getElem_range, List.getD_eq_getElem?_getD, List.getElem?_eq_getElem h1]
        rfl
    rw [e1]
    refine vals_of_get acc.toList _ fun j u hj => ?_
    obtain ⟨c, tu, h1, h2⟩ := hi.2 j u (by rw [← hj, Array.getElem?_toList])
    subst h2
    refine ⟨tu, ?_⟩
    have : z.cps.toList.getD j 0 = c := by
      rw [List.getD_eq_getElem?_getD, Array.getElem?_toList, h1]; rfl
    rw [this]
  refine ⟨.ref s.heap.objs.size, upd H s.heap.objs.size (.lst (chV z)), I.laid hk (Nat.le_refl _) (show ObjOk X.prog X.w _ _ _ (.lst (chV z)) from ⟨?_, acc.toList, c', hv, ?_⟩), rfl, q _ (I.hok.fresh (Nat.le_refl _))⟩
  · rw [hv.length, hl]; exact hsz
  · rw [Array.toArray_toList]; exact e
def gList1 : List D → Option D
  | [.lst ds] => some (.lst ds)
  | [.tup ds] => some (.lst ds)
  | [.str z] => if z.length ≤ LIM then some (.lst (chD z)) else none
  | _ => none
def rList1 (K : PySem.W.Frag) : List V → Hp → VK → Prop := fun xs H Q => (∃ p ys, xs = [.ref p] ∧ (SqL K H p ys ∨ SqT K H p ys) ∧ ∀ l, H l = none → Q (.ref l) (upd H l (.lst ys))) ∨ rListS xs H Q
theorem snd_list1 {K : PySem.W.Frag} : SndN K true (rList1 K) gList1 := fun G H xs ds d e h q Q k => by
  unfold gList1 at q
  split at q
  · cases q
    obtain ⟨v, rfl, hq⟩ := h.one
    obtain ⟨a, xs, rfl, s1, r1⟩ := hq.lst_inv
    exact .inl ⟨_, xs, rfl, .inl (.inl (.inl (e _ _ s1))), fun p hp => k _ _ (Ex.new hp) (new_rp e hp r1) (new_nn hp r1)⟩
  · cases q
    obtain ⟨v, rfl, hq⟩ := h.one
    obtain ⟨a, xs, rfl, s1, r1⟩ := hq.tup_inv
    exact .inl ⟨_, xs, rfl, .inr (.inl (.inl (e _ _ s1))), fun p hp => k _ _ (Ex.new hp) (new_rp e hp r1) (new_nn hp r1)⟩
  · split at q
    · cases q
      rename_i z hz
      obtain ⟨v, rfl, hq⟩ := h.one
      rw [hq.str_inv]
      exact .inr ⟨z, rfl, hz, fun p hp => k _ _ (Ex.new hp) (new_rp e hp (chs_rp _)) (new_nn (G := G) hp (chs_rp _))⟩
    · cases q
  · cases q
def asInts : List D → Option (List Int)
  | [] => some []
  | .int i :: r => (asInts r).map (i :: ·)
  | _ => none
theorem asInts_rp {K : PySem.W.Frag} {x : Bool} {G : Hp} : ∀ {xs : List V} {ds : List D} {ns : List Int}, RpL K x G xs ds → asInts ds = some ns → xs = ns.map V.int
  | _, _, _, .nil, q => by rw [asInts] at q; cases q; rfl
  | _, d :: ds, ns, .cons h r, q => by
    cases d with
    | int i =>
      rw [asInts] at q
      cases z : asInts ds with
      | none => rw [z] at q; cases q
      | some ms => rw [z] at q; cases q; rw [h.int_inv, asInts_rp r z]; rfl
    | _ => rw [asInts] at q <;> first | cases q | (intros; rintro ⟨⟩)
def gSum : List D → Option D
  | [.lst ds] => (asInts ds).map fun ns => .int ns.sum
  | _ => none
theorem snd_sum {K : PySem.W.Frag} : SndN K true (rSum K) gSum := fun G H xs ds d e h q Q k => by
  unfold gSum at q
  split at q
  · rename_i ds
    obtain ⟨v, rfl, hq⟩ := h.one
    obtain ⟨a, xs, rfl, s1, r1⟩ := hq.lst_inv
    cases z : asInts ds with
    | none => rw [z] at q; cases q
    | some ns =>
      rw [z] at q
      cases q
      exact ⟨a, ns, rfl, by rw [← asInts_rp r1 z]; exact .inl (.inl (e _ _ s1)), k_sc k rfl⟩
  · cases q
def minL : List Int → Int
  | [] => 0
  | [i] => i
  | i :: r => min i (minL r)
theorem minL_cons (i j : Int) (r : List Int) : minL (i :: j :: r) = min i (minL (j :: r)) := rfl
theorem minL_spec : ∀ (ns : List Int), ns ≠ [] → minL ns ∈ ns ∧ ∀ y ∈ ns, minL ns ≤ y
  | [], h => absurd rfl h
  | [i], _ => by simp [minL]
  | i :: j :: r, _ => by
    obtain ⟨h1, h2⟩ := minL_spec (j :: r) (List.cons_ne_nil _ _)
    rw [minL_cons]
    refine ⟨?_, fun y hy => ?_⟩
    · rcases Int.le_total i (minL (j :: r)) with z | z
      · rw [Int.min_eq_left z]; exact List.mem_cons_self
      · rw [Int.min_eq_right z]; exact List.mem_cons_of_mem _ h1
    · rcases List.mem_cons.mp hy with rfl | hy
      · exact Int.min_le_left _ _
      · exact Int.le_trans (Int.min_le_right _ _) (h2 y hy)
def gMin1 : List D → Option D
  | [.lst ds] => match asInts ds with
    | some ns => if ns = [] then none else some (.int (minL ns))
    | none => none
  | _ => none
theorem len_pos {α : Type} {l : List α} (h : l ≠ []) : 0 < l.length := by
  cases l with
  | nil => exact absurd rfl h
  | cons a r => exact Nat.succ_pos _
theorem snd_min1 {K : PySem.W.Frag} : SndN K true (rMin K) gMin1 := fun G H xs ds d e h q Q k => by
  unfold gMin1 at q
  split at q
  · rename_i ds
    obtain ⟨v, rfl, hq⟩ := h.one
    obtain ⟨a, xs, rfl, s1, r1⟩ := hq.lst_inv
    split at q
    · rename_i ns z
      split at q
      · cases q
      · rename_i hne
        cases q
        obtain ⟨h1, h2⟩ := minL_spec ns hne
        refine ⟨a, ns, rfl, by rw [← asInts_rp r1 z]; exact .inl (.inl (e _ _ s1)), len_pos hne, fun m hm hle => ?_⟩
        have : m = minL ns := Int.le_antisymm (hle _ h1) (h2 m hm)
        rw [this]
        exact k_sc k rfl
    · cases q
  · cases q
def inD (x : D) (ds : List D) : Bool := match x.toV with
  | some v => inV v (ds.filterMap D.toV)
  | none => false
theorem toVs_rp {K : PySem.W.Frag} {x : Bool} {G : Hp} : ∀ {xs : List V} {ds : List D}, RpL K x G xs ds → ds.all D.sc = true → xs = ds.filterMap D.toV
  | _, _, .nil, _ => rfl
  | _, d :: ds, .cons h r, hs => by
    rw [List.all_cons, Bool.and_eq_true] at hs
    rw [List.filterMap_cons, h.toV hs.1, ← toVs_rp r hs.2]
theorem flatV_of {d : D} {v : V} (h : d.toV = some v) : flatV v = true := by
  cases d <;> cases h <;> rfl
theorem flatV_all {K : PySem.W.Frag} {x : Bool} {G : Hp} : ∀ {xs : List V} {ds : List D}, RpL K x G xs ds → ds.all D.sc = true → xs.all flatV = true
  | _, _, .nil, _ => rfl
  | _, d :: ds, .cons h r, hs => by
    rw [List.all_cons, Bool.and_eq_true] at hs
    rw [List.all_cons, flatV_of (h.toV hs.1), flatV_all r hs.2]; rfl
def inOk (a b : D) : Option Bool := match b with
  | .lst ds => if a.sc && ds.all D.sc then some (inD a ds) else none
  | .tup ds => if a.sc && ds.all D.sc then some (inD a ds) else none
  | .str z => match a with
    | .str ⟨⟨[c]⟩⟩ => some (decide (c ∈ z.cps.toList))
    | _ => none
  | _ => none
def gIn (a b : D) : Option D := (inOk a b).map .bl
def gNotIn (a b : D) : Option D := (inOk a b).map fun k => .bl (!k)
def rIn2 (K : PySem.W.Frag) : R2 := fun x y H Q => rIn K false x y H Q ∨ ∃ (c : Nat) (z : Str), x = .str ⟨#[c]⟩ ∧ y = .str z ∧ Q (.bl (decide (c ∈ z.cps.toList))) H
def rNotIn2 (K : PySem.W.Frag) : R2 := fun x y H Q => rIn K true x y H Q ∨ ∃ (c : Nat) (z : Str), x = .str ⟨#[c]⟩ ∧ y = .str z ∧ Q (.bl (!decide (c ∈ z.cps.toList))) H
theorem op_in2 {X : Cx} : OpR X (compareOp .In) (rIn2 X.K) := op_in_seq.or op_in_sign
theorem op_notIn2 {X : Cx} : OpR X (compareOp .NotIn) (rNotIn2 X.K) := op_notIn_seq.or op_notIn_sign
theorem inOk_cases {K : PySem.W.Frag} {G H : Hp} {x y : V} {a b : D} {k : Bool} (e : Ex G H) (h1 : Rp K true G x a) (h2 : Rp K true G y b) (q : inOk a b = some k) :
    (∃ p xs, y = .ref p ∧ (SqL K H p xs ∨ SqT K H p xs) ∧ flatV x = true ∧ xs.all flatV = true ∧ inV x xs = k) ∨ ∃ (c : Nat) (z : Str), x = .str ⟨#[c]⟩ ∧ y = .str z ∧ decide (c ∈ z.cps.toList) = k := by
  unfold inOk at q
  split at q
  · split at q
    · rename_i hs
      rw [Bool.and_eq_true] at hs
      cases q
      obtain ⟨p, xs, rfl, s1, r1⟩ := h2.lst_inv
      refine .inl ⟨p, xs, rfl, .inl (.inl (.inl (e _ _ s1))), flatV_of (h1.toV hs.1), flatV_all r1 hs.2, ?_⟩
      unfold inD
      rw [h1.toV hs.1, toVs_rp r1 hs.2]
    · cases q
  · split at q
    · rename_i hs
      rw [Bool.and_eq_true] at hs
      cases q
      obtain ⟨p, xs, rfl, s1, r1⟩ := h2.tup_inv
      refine .inl ⟨p, xs, rfl, .inr (.inl (.inl (e _ _ s1))), flatV_of (h1.toV hs.1), flatV_all r1 hs.2, ?_⟩
      unfold inD
      rw [h1.toV hs.1, toVs_rp r1 hs.2]
    · cases q
  · split at q
    · cases q
      exact .inr ⟨_, _, h1.str_inv, h2.str_inv, rfl⟩
    · cases q
  · cases q
theorem snd_in {K : PySem.W.Frag} : Snd2 K true (rIn2 K) gIn := fun G H x y d1 d2 d e h1 h2 q Q k => by
  unfold gIn at q
  cases z : inOk d1 d2 with
  | none => rw [z] at q; cases q
  | some b =>
    rw [z] at q
    cases q
    rcases inOk_cases e h1 h2 z with ⟨p, xs, a1, a2, a3, a4, t⟩ | ⟨c, z, a1, a2, t⟩
    · exact .inl ⟨p, xs, a1, a2, a3, a4, by rw [if_neg Bool.false_ne_true, t]; exact k_sc k rfl⟩
    · exact .inr ⟨c, z, a1, a2, by rw [t]; exact k_sc k rfl⟩
theorem snd_notIn {K : PySem.W.Frag} : Snd2 K true (rNotIn2 K) gNotIn := fun G H x y d1 d2 d e h1 h2 q Q k => by
  unfold gNotIn at q
  cases z : inOk d1 d2 with
  | none => rw [z] at q; cases q
  | some b =>
    rw [z] at q
    cases q
    rcases inOk_cases e h1 h2 z with ⟨p, xs, a1, a2, a3, a4, t⟩ | ⟨c, z, a1, a2, t⟩
    · exact .inl ⟨p, xs, a1, a2, a3, a4, by rw [if_pos rfl, t]; exact k_sc k rfl⟩
    · exact .inr ⟨c, z, a1, a2, by rw [t]; exact k_sc k rfl⟩
end MV
namespace MV
open PySem L2
section
variable {cf : Cf} {R : Rs} {Hs : Hp} {env : PEnv} {σ : L2.St} {H : Hp} {F : Nat → List Addr} {wf : List Addr}
theorem get_set {α : Type} {l : List α} {i j : Nat} {x y : α} (h : (l.set i x)[j]? = some y) : (i = j ∧ x = y ∧ i < l.length) ∨ (i ≠ j ∧ l[j]? = some y) := by
  by_cases e : i = j
  · subst e
    by_cases hl : i < l.length
    · rw [List.getElem?_set_self hl] at h; exact .inl ⟨rfl, Option.some.inj h, hl⟩
    · rw [List.getElem?_eq_none (by rw [List.length_set]; omega)] at h; cases h
  · rw [List.getElem?_set_ne e] at h; exact .inr ⟨e, h⟩
theorem Rel.put (r : Rel cf R Hs env σ H F wf) {i : Nat} {v : V} {d : D} (hw : cf.kd i ≠ .W) (hs : ∀ F', SlotR cf.K cf.ob R Hs H F' (cf.kd i) v d) : Rel cf R Hs (env.set i (some d)) (σ.set i (some v)) H F wf where
  len := by rw [List.length_set, List.length_set]; exact r.len
  exs := r.exs
  ex0 := r.ex0
  dom0 := r.dom0
  slot := fun j d' h => by
    rcases get_set h with ⟨rfl, e, hl⟩ | ⟨ne, h⟩
    · cases e
      exact ⟨v, by rw [List.getElem?_set_self (by rw [← r.len]; exact hl)], hs _⟩
    · obtain ⟨w, h1, h2⟩ := r.slot j d' h
      exact ⟨w, by rw [List.getElem?_set_ne ne]; exact h1, h2⟩
  nod := r.nod
  dis := r.dis
  fdom := r.fdom
  uns := r.uns
  new := r.new
  volw := r.volw
  volb := r.volb
  wdom := r.wdom
  ior := fun p h => by
    obtain ⟨h1, h2, h3, d', h4⟩ := r.ior p h
    have ne : i ≠ 0 := fun e => by subst e; exact hw h3
    exact ⟨by rw [List.getElem?_set_ne ne]; exact h1, h2, h3, d', by rw [List.getElem?_set_ne ne]; exact h4⟩
theorem Rel.mut (r : Rel cf R Hs env σ H F wf) {i : Nat} {p : Addr} {o' : HO} {v : V} {d0 d' : D} (hp : p ∈ F i) (he : env[i]? = some (some d0)) (hv : σ[i]? = some (some v)) (hs : SlotR cf.K cf.ob R Hs (upd H p o') (F i) (cf.kd i) v d') : Rel cf R Hs (env.set i (some d')) σ (upd H p o') F wf where
  len := by rw [List.length_set]; exact r.len
  exs := fun a o h => by
    rw [upd_ne (fun e => by subst e; rw [r.uns i _ hp] at h; cases h)]; exact r.exs a o h
  ex0 := r.ex0
  dom0 := fun a h => by
    by_cases e : a = p
    · subst e; rw [upd_same]; exact fun z => by cases z
    · rw [upd_ne e]; exact r.dom0 a h
  slot := fun j d h => by
    rcases get_set h with ⟨rfl, e, hl⟩ | ⟨ne, h⟩
    · cases e
      exact ⟨v, hv, hs⟩
    · obtain ⟨w, h1, h2⟩ := r.slot j d h
      refine ⟨w, h1, ?_⟩
      have np : ∀ a ∈ F j, ∀ o, H a = some o → upd H p o' a = some o := fun a m o h => by
        rw [upd_ne (fun e => by subst e; exact r.dis i j ne _ hp m)]; exact h
      cases q : cf.kd j with
      | S => rw [q] at h2; exact h2
      | N => rw [q] at h2; exact h2
      | Q => rw [q] at h2; exact h2
      | P => rw [q] at h2; exact Own.keep (Ex.refl _) h2 np
      | M => rw [q] at h2; exact ⟨Own.keep (Ex.refl _) h2.1 np, h2.2⟩
      | W =>
        rw [q] at h2
        rcases h2 with ⟨p2, xs, ds, e1, e2, e3, e4, e5⟩ | ⟨C, hC, h2⟩
        · exact .inl ⟨p2, xs, ds, e1, e2, e3, np p2 (by rw [e3]; exact List.mem_singleton.mpr rfl) _ e4, e5⟩
        · exact .inr ⟨C, hC, h2.mono (Ex.refl _) np⟩
  nod := r.nod
  dis := r.dis
  fdom := fun j a h => by
    by_cases e : a = p
    · subst e; rw [upd_same]; exact fun z => by cases z
    · rw [upd_ne e]; exact r.fdom j a h
  uns := r.uns
  new := r.new
  volw := r.volw
  volb := r.volb
  wdom := fun a h => by
    obtain ⟨h1, h2⟩ := r.wdom a h
    refine ⟨?_, h2⟩
    by_cases e : a = p
    · subst e; rw [upd_same]; exact fun z => by cases z
    · rw [upd_ne e]; exact h1
  ior := fun p h => by
    obtain ⟨h1, h2, h3, d'', h4⟩ := r.ior p h
    refine ⟨h1, h2, h3, ?_⟩
    by_cases e : i = 0
    · subst e
      have hl : 0 < env.length := (List.getElem?_eq_some_iff.mp he).1
      exact ⟨d', by rw [List.getElem?_set_self hl]⟩
    · exact ⟨d'', by rw [List.getElem?_set_ne e]; exact h4⟩
theorem Rel.own {env1 : PEnv} {Hs1 H1 : Hp} (r : Rel cf R Hs env σ H F wf) (s1 : Stp cf wf env Hs H env1 Hs1 H1) (r1 : Rel cf R Hs1 env1 σ H1 F wf) {i : Nat} {v : V} {d : D} {Fn wf' : List Addr} (hio : R.io ≠ none → i ≠ 0)
    (hn : Fn.Nodup) (hnew : ∀ a ∈ Fn, H a = none ∧ H1 a ≠ none) (hwf : ∀ a, a ∈ wf' ↔ a ∈ wf ∨ (cf.kd i = .W ∧ a ∈ Fn))
    (hs : SlotR cf.K cf.ob R (rm Hs1 Fn) H1 Fn (cf.kd i) v d) (hob : cf.ob = none ∨ (env1 = env ∧ ∀ a, a ∈ wf → H1 a = H a)) : Rel cf R (rm Hs1 Fn) (env1.set i (some d)) (σ.set i (some v)) H1 (fun j => if j = i then Fn else F j) wf' ∧ Ex Hs (rm Hs1 Fn) := by
  have old : ∀ a, H a ≠ none → a ∉ Fn := fun a h m => h (hnew a m).1
  have exs : Ex Hs (rm Hs1 Fn) := fun a o h => by
    have : a ∉ Fn := old a (by rw [r.exs a o h]; exact fun z => by cases z)
    unfold rm
    rw [if_neg this]
    exact s1.ex a o h
  have sub : Ex (rm Hs1 Fn) Hs1 := rm_sub _ _
  refine ⟨?_, exs⟩
  constructor
  case len => rw [List.length_set, List.length_set]; exact r1.len
  case exs => exact sub.trans r1.exs
  case ex0 => exact fun a o h n => exs a o (r.ex0 a o h n)
  case dom0 => exact r1.dom0
  case slot =>
    intro j d' h
    rcases get_set h with ⟨rfl, e, hl⟩ | ⟨ne, h⟩
    · cases e
      exact ⟨v, by rw [List.getElem?_set_self (by rw [← r1.len]; exact hl)], by rw [if_pos rfl]; exact hs⟩
    · obtain ⟨w, h1, h2⟩ := r1.slot j d' h
      refine ⟨w, by rw [List.getElem?_set_ne ne]; exact h1, ?_⟩
      rw [if_neg (Ne.symm ne)]
      by_cases hw : cf.kd j = .W
      · rcases hob with hob | ⟨he, hh⟩
        · rw [hw] at h2 ⊢
          rcases h2 with h2 | ⟨C, hC, h2⟩
          · exact .inl h2
          · rw [hob] at hC; cases hC
        · have h' : env[j]? = some (some d') := by rw [← he]; exact h
          obtain ⟨w0, g1, g2⟩ := r.slot j d' h'
          have ew : w0 = w := by rw [g1] at h1; cases h1; rfl
          subst ew
          have kk : ∀ a ∈ F j, ∀ o, H a = some o → H1 a = some o := fun a m o q => by rw [hh a (r.volw j hw a m)]; exact q
          rw [hw] at g2 ⊢
          rcases g2 with ⟨p2, xs, ds, e1, e2, e3, e4, e5⟩ | ⟨C, hC, g2⟩
          · exact .inl ⟨p2, xs, ds, e1, e2, e3, kk p2 (by rw [e3]; exact List.mem_singleton.mpr rfl) _ e4, e5⟩
          · exact .inr ⟨C, hC, g2.mono exs kk⟩
      · have h' : env[j]? = some (some d') := by rw [← s1.kp j hw]; exact h
        obtain ⟨w0, g1, g2⟩ := r.slot j d' h'
        have ew : w0 = w := by rw [g1] at h1; cases h1; rfl
        subst ew
        cases q : cf.kd j with
        | S => rw [q] at g2; exact Rp.mono exs g2
        | N => rw [q] at g2; exact Rp.mono (rs_mono exs) g2
        | Q => rw [q] at g2; exact Rp.mono exs g2
        | P => rw [q] at g2; exact Own.keep (th_mono (rs_mono exs)) g2 fun a m o ha => s1.keep a o (r.volb j hw a m) ha
        | M => rw [q] at g2; exact ⟨Own.keep (rs_mono exs) g2.1 fun a m o ha => s1.keep a o (r.volb j hw a m) ha, g2.2⟩
        | W => exact absurd q hw
  case nod =>
    intro j
    by_cases e : j = i
    · rw [if_pos e]; exact hn
    · rw [if_neg e]; exact r.nod j
  case dis =>
    intro j k ne a m
    by_cases e : j = i
    · subst e
      rw [if_pos rfl] at m
      rw [if_neg (Ne.symm ne)]
      exact fun m2 => r.fdom k a m2 (hnew a m).1
    · rw [if_neg e] at m
      by_cases e2 : k = i
      · rw [if_pos e2]; exact old a (r.fdom j a m)
      · rw [if_neg e2]; exact r.dis j k ne a m
  case fdom =>
    intro j a m
    by_cases e : j = i
    · rw [if_pos e] at m; exact (hnew a m).2
    · rw [if_neg e] at m; exact r1.fdom j a m
  case uns =>
    intro j a m
    by_cases e : j = i
    · rw [if_pos e] at m; unfold rm; rw [if_pos m]
    · rw [if_neg e] at m
      unfold rm
      split
      · rfl
      · exact r1.uns j a m
  case new =>
    intro j a m
    by_cases e : j = i
    · rw [if_pos e] at m
      refine .inr ?_
      cases q : R.H0 a with
      | none => rfl
      | some o => exact absurd (hnew a m).1 (r.dom0 a (by rw [q]; exact fun z => by cases z))
    · rw [if_neg e] at m; exact r.new j a m
  case volw =>
    intro j hk a m
    rw [hwf]
    by_cases e : j = i
    · subst e; rw [if_pos rfl] at m; exact .inr ⟨hk, m⟩
    · rw [if_neg e] at m; exact .inl (r.volw j hk a m)
  case volb =>
    intro j hk a m z
    rcases (hwf a).mp z with z | ⟨z1, z2⟩
    · by_cases e : j = i
      · rw [if_pos e] at m; exact (r.wdom a z).1 (hnew a m).1
      · rw [if_neg e] at m; exact r.volb j hk a m z
    · by_cases e : j = i
      · subst e; exact hk z1
      · rw [if_neg e] at m; exact r.fdom j a m (hnew a z2).1
  case wdom =>
    intro a m
    rcases (hwf a).mp m with z | ⟨z1, z2⟩
    · obtain ⟨g1, g2⟩ := r1.wdom a z
      refine ⟨g1, ?_⟩
      unfold rm
      split
      · rfl
      · exact g2
    · refine ⟨(hnew a z2).2, ?_⟩
      unfold rm
      rw [if_pos z2]
  case ior =>
    intro p h
    obtain ⟨h1, h2, h3, d', h4⟩ := r1.ior p h
    have ne : i ≠ 0 := hio (by rw [h]; exact fun z => by cases z)
    exact ⟨by rw [List.getElem?_set_ne ne]; exact h1, by rw [if_neg (Ne.symm ne)]; exact h2, h3, d', by rw [List.getElem?_set_ne ne]; exact h4⟩
end
def SG (X : Cx) (cf : Cf) (W : WX) (c : Cls) (n : Bool) (i : Nat) (st : Stmt) (f : M D) : Prop := ∃ te, PS X st (tAsg te (gName i)) ∧ Sd cf W c n te f
def sSet (i : Nat) (f : M D) : M Fl := bnd f fun d => fun e => .ok .nx (e.set i (some d))
def mok : D → Bool
  | .lst ds => ds.all fun x => x.sc || match x with | .tup es => es.all D.sc | _ => false
  | d => d.sc
def sSetM (i : Nat) (f : M D) : M Fl := bnd f fun d => bnd (lift (if mok d then some d else none)) fun d => fun e => .ok .nx (e.set i (some d))
def wok : D → Bool
  | .lst ds => ds.all D.sc
  | _ => false
def sSetW (i : Nat) (f : M D) : M Fl := bnd f fun d => bnd (lift (if wok d then some d else none)) fun d => fun e => .ok .nx (e.set i (some d))
def eS (f : M D) : M D := bnd f fun d => lift (if d.sc then some d else none)
section
variable {X : Cx} {cf : Cf} {W : WX} {c : Cls} {n : Bool} {i : Nat}
theorem SE.scal {e : Expr} {te : TE} {f : M D} (h : SE X cf W c n e te f) : SE X cf W .V true e te (eS f) := by
  obtain ⟨p, s⟩ := h
  refine ⟨p, Sd.mk (fun R Hs env σ H F wf r d env' q Q k => ?_) (fun R Hs env σ H F wf r x env' q Q k => ?_)⟩
  · obtain ⟨d1, env1, q1, q⟩ := bnd_ok q
    obtain ⟨qg, rfl⟩ := lift_ok q
    split at qg
    · cases qg
      rename_i hs
      exact s.ok r q1 fun v Hs1 H1 s1 r1 p1 _ => k v Hs1 H1 s1 r1 (p1.sc_any hs _ _) fun _ _ => p1.sc_any hs _ _
    · cases qg
  · rcases bnd_ex q with q | ⟨d1, env1, q1, q⟩
    · exact s.exn r q k
    · exact (lift_ex q).elim
theorem Post.mono {R : Rs} {Hs Hs' : Hp} {D : Ends} (e : Ex Hs Hs') : ∀ {g : Res Fl}, Post cf W R Hs D g → Post cf W R Hs' D g
  | .ok .nx _, h => fun Hs2 σ' H' F' wf' e2 r => h Hs2 σ' H' F' wf' (e.trans e2) r
  | .ok (.rt _) _, h => fun v Hs2 σ' H' F' wf' e2 r => h v Hs2 σ' H' F' wf' (e.trans e2) r
  | .ok .bk _, h => fun Hs2 σ' H' F' wf' e2 r => h Hs2 σ' H' F' wf' (e.trans e2) r
  | .ok .ct _, h => fun Hs2 σ' H' F' wf' e2 r => h Hs2 σ' H' F' wf' (e.trans e2) r
  | .ex _ _, h => fun Hs2 σ' H' F' wf' e2 r => h Hs2 σ' H' F' wf' (e.trans e2) r
  | .stuck, h => h
theorem Sd.bind {te : TE} {f : M D} {g : D → M Fl} {R : Rs} {Hs : Hp} {env : PEnv} {σ : L2.St} {H : Hp} {F : Nat → List Addr} {wf : List Addr} {D : Ends} {Q : VK} (s : Sd cf W c n te f) (r : Rel cf R Hs env σ H F wf) (hp : Post cf W R Hs D (bnd f g env))
    (k : ∀ d env1 v Hs1 H1, Stp cf wf env Hs H env1 Hs1 H1 → Rel cf R Hs1 env1 σ H1 F wf → Rp cf.K true (rg c R.H0 Hs1 H H1 wf) v d → Nr cf.K n H Hs1 v d → Post cf W R Hs D (g d env1) → Q v H1) : te σ H Q := by
  unfold bnd at hp
  cases q : f env with
  | ok d env1 => rw [q] at hp; exact s.ok r q fun v Hs1 H1 s1 r1 p1 nr => k d env1 v Hs1 H1 s1 r1 p1 nr hp
  | ex x env1 => rw [q] at hp; exact s.exn r q fun Hs1 H1 s1 r1 => hp Hs1 σ H1 F wf s1.ex r1
  | stuck => rw [q] at hp; exact hp.elim
theorem SdT.bind {tt : TT} {f : M Bool} {g : Bool → M Fl} {R : Rs} {Hs : Hp} {env : PEnv} {σ : L2.St} {H : Hp} {F : Nat → List Addr} {wf : List Addr} {D : Ends} {Q : Bool → Hp → Prop} (s : SdT cf W tt f) (r : Rel cf R Hs env σ H F wf) (hp : Post cf W R Hs D (bnd f g env))
    (k : ∀ b env1 Hs1 H1, Stp cf wf env Hs H env1 Hs1 H1 → Rel cf R Hs1 env1 σ H1 F wf → Post cf W R Hs D (g b env1) → Q b H1) : tt σ H Q := by
  unfold bnd at hp
  cases q : f env with
  | ok d env1 => rw [q] at hp; exact s.ok r q fun Hs1 H1 s1 r1 => k d env1 Hs1 H1 s1 r1 hp
  | ex x env1 => rw [q] at hp; exact s.exn r q fun Hs1 H1 s1 r1 => hp Hs1 σ H1 F wf s1.ex r1
  | stuck => rw [q] at hp; exact hp.elim
theorem post_lift {α : Type} {o : Option α} {g : α → M Fl} {R : Rs} {Hs : Hp} {env : PEnv} {D : Ends} (hp : Post cf W R Hs D (bnd (lift o) g env)) : ∃ a, o = some a ∧ Post cf W R Hs D (g a env) := by
  cases o with
  | none => exact hp.elim
  | some a => exact ⟨a, rfl, hp⟩
theorem ss_setS {st : Stmt} {f : M D} (h : SG X cf W .S n i st f) (hk : cf.kd i = .S) : SS X cf W st (sSet i f) := by
  obtain ⟨te, p, s⟩ := h
  refine ⟨_, p, fun R Hs env σ H F wf r D hp => s.bind r hp fun d env1 v Hs1 H1 s1 r1 p1 _ hp => ?_⟩
  exact hp Hs1 _ H1 F wf s1.ex (r1.put (by rw [hk]; exact fun z => by cases z) fun F' => by rw [hk]; exact p1)
theorem ss_setN {st : Stmt} {f : M D} (h : SG X cf W .N n i st f) (hk : cf.kd i = .N) : SS X cf W st (sSet i f) := by
  obtain ⟨te, p, s⟩ := h
  refine ⟨_, p, fun R Hs env σ H F wf r D hp => s.bind r hp fun d env1 v Hs1 H1 s1 r1 p1 _ hp => ?_⟩
  exact hp Hs1 _ H1 F wf s1.ex (r1.put (by rw [hk]; exact fun z => by cases z) fun F' => by rw [hk]; exact p1)
theorem items_off {K : PySem.W.Frag} {A G : Hp} {p : Addr} {xs0 : List V} (hp : A p = some (.lst xs0)) (e : ∀ a o, a ≠ p → A a = some o → G a = some o) : ∀ {xs : List V} {ds : List D}, RpL K true A xs ds → (ds.all fun x => x.sc || match x with | .tup es => es.all D.sc | _ => false) = true → RpL K true G xs ds
  | _, _, .nil, _ => .nil
  | _, d :: ds, .cons h r, hs => by
    rw [List.all_cons, Bool.and_eq_true] at hs
    refine .cons ?_ (items_off hp e r hs.2)
    by_cases z : d.sc = true
    · exact h.sc_any z _ _
    · have h1 := hs.1
      rw [Bool.or_eq_true] at h1
      rcases h1 with h1 | h1
      · exact absurd h1 z
      · cases d with
        | tup es =>
          obtain ⟨a, ys, rfl, s1, r1⟩ := h.tup_inv
          have na : a ≠ p := fun z => by
            subst z
            have s1 : A a = some (.tup ys) := s1
            rw [hp] at s1; cases s1
          exact .tup (show G a = _ from e a _ na s1) (r1.sc_any h1 _ _)
        | _ => cases h1
theorem ss_setM {st : Stmt} {f : M D} (h : SG X cf W .V n i st f) (hk : cf.kd i = .M) (hob : cf.ob = none := by rfl) : SS X cf W st (sSetM i f) := by
  obtain ⟨te, p, s⟩ := h
  refine ⟨_, p, fun R Hs env σ H F wf r D hp => s.bind r hp fun d env1 v Hs1 H1 s1 r1 p1 _ hp => ?_⟩
  obtain ⟨d', e, hp⟩ := post_lift hp
  split at e
  · cases e
    rename_i hm
    have p1 : Rp cf.K true (rs Hs1 H) v d := p1
    cases d with
    | lst ds =>
      obtain ⟨a, xs, rfl, h1, h2⟩ := p1.lst_inv
      have h1 : rs Hs1 H a = some (.lst xs) := h1
      have hna : H a = none := by
        cases z : H a with
        | none => rfl
        | some o => rw [rs_some z] at h1; cases h1
      rw [rs_none hna] at h1
      have hio : R.io ≠ none → i ≠ 0 := fun hh e => by
        cases z : R.io with
        | none => exact hh z
        | some q =>
          obtain ⟨_, _, h3, _⟩ := r.ior q z
          rw [← e, hk] at h3; cases h3
      obtain ⟨r2, e2⟩ := r.own s1 r1 (i := i) (v := .ref a) (d := .lst ds) (Fn := [a]) (wf' := wf) hio (by simp)
        (fun b m => by
          rw [List.mem_singleton.mp m]
          exact ⟨hna, by rw [r1.exs _ _ h1]; exact fun z => by cases z⟩)
        (fun b => ⟨.inl, fun z => z.elim id fun z => by rw [hk] at z; cases z.1⟩)
        (by
          rw [hk]
          refine ⟨Own.lst (r1.exs _ _ h1) (ownL_of ?_), fun z => (by cases z), Nat.le_refl _⟩
          refine items_off (A := rs Hs1 H) (p := a) (xs0 := xs) (by rw [rs_none hna]; exact h1) (fun b o nb hb => ?_) h2 hm
          have hb0 : H b = none := by
            cases z : H b with
            | none => rfl
            | some o => rw [rs_some z] at hb; cases hb
          rw [rs_none hb0] at hb
          have h00 : R.H0 b = none := by
            cases z : R.H0 b with
            | none => rfl
            | some o => exact absurd hb0 (r.dom0 b (by rw [z]; exact fun z => by cases z))
          rw [rs_none h00]
          unfold rm
          rw [if_neg (fun m => nb (List.mem_singleton.mp m))]
          exact hb) (.inl hob)
      exact hp _ _ H1 _ wf e2 r2
    | _ =>
      obtain ⟨r2, e2⟩ := r.own s1 r1 (i := i) (v := v) (d := _) (Fn := []) (wf' := wf) (fun hh e => by
            cases z : R.io with
            | none => exact hh z
            | some q =>
              obtain ⟨_, _, h3, _⟩ := r.ior q z
              rw [← e, hk] at h3; cases h3) (by simp) (fun b m => by cases m) (fun b => ⟨.inl, fun z => z.elim id fun z => by cases z.2⟩) (by
            rw [hk]
            exact ⟨.leaf (p1.sc_any hm _ _), fun _ => hm, Nat.zero_le _⟩) (.inl hob)
      exact hp _ _ H1 _ wf e2 r2
  · cases e
theorem sg_of {x : Str} {e : Expr} {te : TE} {f : M D} {pos' pos : Pos} (h : SE X cf W c n e te f) (hN : X.N.Nodup) (hi : X.N[i]? = some x) (hx : Loc X.env.scope x) (hs : swapsWith e (some (.Name x pos')) pos.line X.env = pure false := by rfl) (hf : X.fn x = true ∨ X.env.scope.names.lookup x = some .local := by first | exact .inl rfl | exact .inr rfl | assumption) :
    SG X cf W c n i (.Assign [.Name x pos'] e pos) f := by
  obtain ⟨p, s⟩ := h
  exact ⟨te, ps_set hN hi hx p hs hf, s⟩
theorem SG.le {c' : Cls} {st : Stmt} {f : M D} (h : SG X cf W c n i st f) (l : Cls.Le c c') : SG X cf W c' n i st f := let ⟨t, p, s⟩ := h; ⟨t, p, s.le l⟩
def sSkip : M Fl := ret .nx
def sSeq (a b : M Fl) : M Fl := bnd a fun f => match f with
  | .nx => b
  | o => ret o
def sDrop (f : M D) : M Fl := bnd f fun _ => ret .nx
def sRet (f : M D) : M Fl := bnd f fun d => ret (.rt d)
def sIf (t : M Bool) (a b : M Fl) : M Fl := bnd t fun k => if k then a else b
def sBrk : M Fl := ret .bk
def sCont : M Fl := ret .ct
theorem sss_nil : SSs X cf W [] sSkip := ⟨_, pss_nil, fun R Hs env σ H F wf r D hp => hp Hs σ H F wf (Ex.refl _) r⟩
theorem sds_seq {t u : TS} {a b : M Fl} (ha : SdS cf W t a) (hb : SdS cf W u b) : SdS cf W (tSeq t u) (sSeq a b) := by
  intro R Hs env σ H F wf r D hp
  refine ha R Hs env σ H F wf r { D with nx := u D } ?_
  unfold sSeq bnd at hp
  cases q : a env with
  | ok f env1 =>
    rw [q] at hp
    cases f with
    | nx => exact fun Hs' σ' H' F' wf' e r' => hb R Hs' env1 σ' H' F' wf' r' D (hp.mono e)
    | rt d => exact hp
    | bk => exact hp
    | ct => exact hp
  | ex x env1 => rw [q] at hp; exact hp
  | stuck => rw [q] at hp; exact hp
theorem sss_cons {st : Stmt} {rest : List Stmt} {a b : M Fl} (ha : SS X cf W st a) (hb : SSs X cf W rest b) : SSs X cf W (st :: rest) (sSeq a b) := let ⟨_, p, s⟩ := ha; let ⟨_, p2, s2⟩ := hb; ⟨_, pss_cons p p2, sds_seq s s2⟩
theorem sss_one {st : Stmt} {a : M Fl} (ha : SS X cf W st a) : SSs X cf W [st] a := let ⟨_, p, s⟩ := ha; ⟨_, pss_one p, s⟩
theorem ss_expr {e : Expr} {te : TE} {f : M D} {pos : Pos} (h : SE X cf W c n e te f) (hs : swapsWith e none pos.line X.env = pure false := by rfl) : SS X cf W (.Expr e pos) (sDrop f) := by
  obtain ⟨p, s⟩ := h
  exact ⟨_, ps_expr p hs, fun R Hs env σ H F wf r D hp => s.bind r hp fun d env1 v Hs1 H1 s1 r1 p1 _ hp => hp Hs1 σ H1 F wf s1.ex r1⟩
theorem ss_ret {e : Expr} {te : TE} {f : M D} {pos : Pos} (h : SE X cf W .L n e te f) : SS X cf W (.Return (some e) pos) (sRet f) := by
  obtain ⟨p, s⟩ := h
  exact ⟨_, ps_ret p, fun R Hs env σ H F wf r D hp => s.bind r hp fun d env1 v Hs1 H1 s1 r1 p1 _ hp => hp v Hs1 σ H1 F wf s1.ex r1 p1⟩
def sRetN : M Fl := ret (.rt .non)
theorem ss_if {e : Expr} {a b : List Stmt} {tt : TT} {ft : M Bool} {fa fb : M Fl} {pos : Pos} (ht : ST X cf W e tt ft) (ha : SSs X cf W a fa) (hb : SSs X cf W b fb) : SS X cf W (.If e a b pos) (sIf ft fa fb) := by
  obtain ⟨p, s⟩ := ht
  obtain ⟨ta, pa, sa⟩ := ha
  obtain ⟨tb, pb, sb⟩ := hb
  refine ⟨_, ps_if p pa pb, fun R Hs env σ H F wf r D hp => s.bind r hp fun k env1 Hs1 H1 s1 r1 hp => ?_⟩
  cases k with
  | true => exact sa R Hs1 env1 σ H1 F wf r1 D (Post.mono s1.ex hp)
  | false => exact sb R Hs1 env1 σ H1 F wf r1 D (Post.mono s1.ex hp)
def sAft (go : M Fl) : Fl → M Fl
  | .nx => go
  | .ct => go
  | .bk => ret .nx
  | .rt d => ret (.rt d)
def sWhile (t : M Bool) (b : M Fl) : Nat → M Fl
  | 0 => fail
  | n + 1 => bnd t fun k => if k then bnd b (sAft (sWhile t b n)) else ret .nx
theorem ss_while {e : Expr} {body : List Stmt} {tt : TT} {ft : M Bool} {fb : M Fl} {pos : Pos} (m : Nat) (hp : PassesOwn (model X.prog X.w) X.A X.env X.xe) (ht : ST X cf W e tt ft) (hb : SSs X cf W body fb) : SS X cf W (.While e body [] pos) (sWhile ft fb m) := by
  obtain ⟨p, s⟩ := ht
  obtain ⟨tb, pb, sb⟩ := hb
  refine ⟨_, ps_while hp p pb, fun R Hs env σ H F wf r D hp => ?_⟩
  refine ⟨fun m σ H => ∃ Hs1 env F wf, Ex Hs Hs1 ∧ Rel cf R Hs1 env σ H F wf ∧ Post cf W R Hs1 D (sWhile ft fb m env), ⟨m, Hs, env, F, wf, Ex.refl _, r, hp⟩, ?_⟩
  rintro m σ H ⟨Hs1, env, F, wf, e1, r, hp⟩
  cases m with
  | zero => exact hp.elim
  | succ m =>
    refine s.bind r hp fun k env1 Hs2 H2 s2 r2 hp => ?_
    have hp := Post.mono s2.ex hp
    cases k with
    | false => exact hp Hs2 σ H2 F wf (Ex.refl _) r2
    | true =>
      refine ⟨fun σ' H' => ∃ Hs3 env F wf, Ex Hs Hs3 ∧ Rel cf R Hs3 env σ' H' F wf ∧ Post cf W R Hs3 D (sWhile ft fb m env), fun σ' H' h => ⟨m, Nat.lt_succ_self m, h⟩, ?_⟩
      refine sb R Hs2 env1 σ H2 F wf r2 _ ?_
      have hp : Post cf W R Hs2 D (bnd fb (sAft (sWhile ft fb m)) env1) := hp
      unfold bnd at hp
      cases q : fb env1 with
      | ok f env2 =>
        rw [q] at hp
        cases f with
        | nx => exact fun Hs' σ' H' F' wf' e r' => ⟨Hs', env2, F', wf', (e1.trans s2.ex).trans e, r', Post.mono e hp⟩
        | ct => exact fun Hs' σ' H' F' wf' e r' => ⟨Hs', env2, F', wf', (e1.trans s2.ex).trans e, r', Post.mono e hp⟩
        | bk => exact fun Hs' σ' H' F' wf' e r' => hp Hs' σ' H' F' wf' e r'
        | rt d => exact hp
      | ex x env2 => rw [q] at hp; exact hp
      | stuck => rw [q] at hp; exact hp
end
end MV
namespace MV
open PySem L2
structure ItOk (K : PySem.W.Frag) (J : It) (Hs1 : Hp) (ds : List D) : Prop where
  go : ∀ i H, i < ds.length → Ex Hs1 H → J.go i H
  stop : ∀ H, Ex Hs1 H → J.stop ds.length H
  yld : ∀ i H x H', Ex Hs1 H → i < ds.length → J.yld i H x H' → Ex H H' ∧ ∀ G, Ex Hs1 G → Ex G H → ∃ d, ds[i]? = some d ∧ Rp K true (grow G H H') x d
def SdI (cf : Cf) (W : WX) (wi : TI) (fi : M (List D)) : Prop :=
  ∀ (R : Rs) (Hs : Hp) (env : PEnv) (σ : L2.St) (H : Hp) (F : Nat → List Addr) (wf : List Addr), Rel cf R Hs env σ H F wf → ∀ Rk : It → Hp → Prop,
    match fi env with
    | .ok ds env' => (∀ J Hs' H', Stp cf wf env Hs H env' Hs' H' → Rel cf R Hs' env' σ H' F wf → ItOk cf.K J Hs' ds → Rk J H') → wi σ H Rk
    | .ex x env' => (∀ Hs' H', Stp cf wf env Hs H env' Hs' H' → Rel cf R Hs' env' σ H' F wf → W (cf.cv x) none σ H') → wi σ H Rk
    | .stuck => True
structure SI (X : Cx) (cf : Cf) (W : WX) (tg iter : Expr) (wi : TI) (fi : M (List D)) : Prop where
  p : PI X tg iter wi
  s : SdI cf W wi fi
section
variable {K : PySem.W.Frag}
theorem itl_ok {a : Addr} {xs : List V} {ds : List D} {Hs1 : Hp} (h : Hs1 a = some (.lst xs)) (r : RpL K true Hs1 xs ds) : ItOk K (Itl K a) Hs1 ds where
  go := fun i H hi e => by
    have hi' : i < xs.length := by rw [r.length]; exact hi
    exact ⟨xs, xs[i], .inl (.inl (e _ _ h)), by simp [hi']⟩
  stop := fun H e => ⟨xs, .inl (.inl (e _ _ h)), by rw [r.length]; exact Nat.le_refl _⟩
  yld := fun i H x H' e hi y => by
    obtain ⟨rfl, y⟩ := y
    refine ⟨Ex.refl _, fun G eg e2 => ?_⟩
    obtain ⟨d, hd, hr⟩ := r.getV (y xs (.inl (.inl (e _ _ h))))
    exact ⟨d, hd, hr.mono (eg.trans (Ex.grow e2 (Ex.refl _)))⟩
def rngD (lo : Int) (n : Nat) : List D := (List.range n).map fun k => .int (lo + (k : Nat))
theorem rngD_len (lo : Int) (n : Nat) : (rngD lo n).length = n := by unfold rngD; rw [List.length_map, List.length_range]
theorem itr_ok {lo : Int} {n : Nat} {Hs1 : Hp} : ItOk K (Itr lo n) Hs1 (rngD lo n) where
  go := fun i H hi e => by rw [rngD_len] at hi; exact hi
  stop := fun H e => by rw [rngD_len]; exact Nat.le_refl _
  yld := fun i H x H' e hi y => by
    obtain ⟨rfl, rfl⟩ := y
    rw [rngD_len] at hi
    exact ⟨Ex.refl _, fun G eg e2 => ⟨.int (lo + i), by unfold rngD; simp [hi], .int _⟩⟩
def rngC (lo c : Int) (n : Nat) : List D := (List.range n).map fun k => .int (lo + (k : Nat) * c)
theorem rngC_len (lo c : Int) (n : Nat) : (rngC lo c n).length = n := by unfold rngC; rw [List.length_map, List.length_range]
theorem itc_ok {lo c : Int} {n : Nat} {Hs1 : Hp} : ItOk K (Itc lo c n) Hs1 (rngC lo c n) where
  go := fun i H hi e => by rw [rngC_len] at hi; exact hi
  stop := fun H e => by rw [rngC_len]; exact Nat.le_refl _
  yld := fun i H x H' e hi y => by
    obtain ⟨rfl, rfl⟩ := y
    rw [rngC_len] at hi
    exact ⟨Ex.refl _, fun G eg e2 => ⟨.int (lo + (i : Nat) * c), by unfold rngC; simp [hi], .int _⟩⟩
def enumD (ds : List D) : List D := ds.zipIdx.map fun p => .tup [.int (p.2 : Nat), p.1]
theorem enumD_len (ds : List D) : (enumD ds).length = ds.length := by unfold enumD; simp
theorem ite_ok {a : Addr} {xs : List V} {ds : List D} {Hs1 : Hp} (h : Hs1 a = some (.lst xs)) (r : RpL K true Hs1 xs ds) : ItOk K (Ite K a) Hs1 (enumD ds) where
  go := fun i H hi e => by
    rw [enumD_len] at hi
    have hi' : i < xs.length := by rw [r.length]; exact hi
    exact ⟨xs, xs[i], .inl (.inl (e _ _ h)), by simp [hi']⟩
  stop := fun H e => ⟨xs, .inl (.inl (e _ _ h)), by rw [enumD_len, r.length]; exact Nat.le_refl _⟩
  yld := fun i H x H' e hi y => by
    obtain ⟨T, z, rfl, hT, rfl, y⟩ := y
    refine ⟨Ex.new hT, fun G eg e2 => ?_⟩
    obtain ⟨d, hd, hr⟩ := r.getV (y xs (.inl (.inl (e _ _ h))))
    refine ⟨.tup [.int (i : Nat), d], by unfold enumD; simp [hd], newT_rp e2 hT (.cons (.int _) (.cons (hr.mono eg) .nil))⟩
def zipD (as bs : List D) : List D := (as.zip bs).map fun p => .tup [p.1, p.2]
def strD (z : Str) : List D := z.cps.toList.map fun c => .str ⟨#[c]⟩
theorem its_ok {z : Str} {Hs1 : Hp} : ItOk K (Its z) Hs1 (strD z) where
  go := fun i H hi e => by unfold strD at hi; rw [List.length_map, Array.length_toList] at hi; exact hi
  stop := fun H e => by unfold strD; rw [List.length_map, Array.length_toList]; exact Nat.le_refl _
  yld := fun i H x H' e hi y => by
    obtain ⟨rfl, c, hc, rfl⟩ := y
    exact ⟨Ex.refl _, fun G eg e2 => ⟨.str ⟨#[c]⟩, by unfold strD; simp [hc], .str _⟩⟩
end
def asL : D → Option (List D)
  | .lst ds => some ds
  | _ => none
def asT : D → Option (List D)
  | .tup ds => some ds
  | _ => none
def asStr : D → Option (List D)
  | .str z => some (strD z)
  | _ => none
def iL (f : M D) : M (List D) := bnd f fun d => lift (asL d)
def iT (f : M D) : M (List D) := bnd f fun d => lift (asT d)
def iS (f : M D) : M (List D) := bnd f fun d => lift (asStr d)
def smallI (i : Int) : Bool := decide (-(2 ^ 62) ≤ i ∧ i < 2 ^ 62)
def gR1 : List D → Option (List D)
  | [.int j] => if smallI j then some (rngD 0 j.toNat) else none
  | _ => none
def gR2 : List D → Option (List D)
  | [.int i, .int j] => if smallI i && smallI j then some (rngD i (j - i).toNat) else none
  | _ => none
def gEn : List D → Option (List D)
  | [.lst ds] => some (enumD ds)
  | _ => none
def gZp : List D → Option (List D)
  | [.lst as, .lst bs] => some (zipD as bs)
  | _ => none
def iN (g : List D → Option (List D)) (a : M (List D)) : M (List D) := bnd a fun x => lift (g x)
section
variable {X : Cx} {cf : Cf} {W : WX} {c : Cls} {n : Bool} {tg : Expr}
theorem SdI.mk {wi : TI} {fi : M (List D)} (h1 : ∀ R Hs env σ H F wf, Rel cf R Hs env σ H F wf → ∀ ds env', fi env = .ok ds env' → ∀ Rk : It → Hp → Prop, (∀ J Hs' H', Stp cf wf env Hs H env' Hs' H' → Rel cf R Hs' env' σ H' F wf → ItOk cf.K J Hs' ds → Rk J H') → wi σ H Rk)
    (h2 : ∀ R Hs env σ H F wf, Rel cf R Hs env σ H F wf → ∀ x env', fi env = .ex x env' → ∀ Rk : It → Hp → Prop, (∀ Hs' H', Stp cf wf env Hs H env' Hs' H' → Rel cf R Hs' env' σ H' F wf → W (cf.cv x) none σ H') → wi σ H Rk) : SdI cf W wi fi := by
  intro R Hs env σ H F wf r Q
  cases q : fi env with
  | ok d env' => exact h1 R Hs env σ H F wf r d env' q Q
  | ex x env' => exact h2 R Hs env σ H F wf r x env' q Q
  | stuck => trivial
theorem asL_some {d : D} {ds : List D} (h : asL d = some ds) : d = .lst ds := by
  unfold asL at h; split at h <;> cases h; rfl
theorem si_list {e : Expr} {te : TE} {f : M D} (hK : cf.K = X.K) (h : SE X cf W .S n e te f) : SI X cf W tg e (iList cf.K te) (iL f) := by
  rw [hK]
  obtain ⟨p, s⟩ := h
  refine ⟨pi_list p, SdI.mk (fun R Hs env σ H F wf r ds env' q Rk k => ?_) (fun R Hs env σ H F wf r x env' q Rk k => ?_)⟩
  · obtain ⟨d1, env1, q1, q⟩ := bnd_ok q
    obtain ⟨qg, rfl⟩ := lift_ok q
    cases asL_some qg
    refine s.ok r q1 fun v Hs1 H1 s1 r1 p1 _ => ?_
    obtain ⟨a, xs, rfl, h1, h2⟩ := p1.lst_inv
    exact ⟨a, rfl, ⟨xs, .inl (.inl (r1.exs _ _ h1))⟩, k _ Hs1 H1 s1 r1 (by rw [← hK]; exact itl_ok h1 h2)⟩
  · rcases bnd_ex q with q | ⟨d1, env1, q1, q⟩
    · exact s.exn r q k
    · exact (lift_ex q).elim
theorem si_str {e : Expr} {te : TE} {f : M D} (h : SE X cf W c n e te f) : SI X cf W tg e (iStr te) (iS f) := by
  obtain ⟨p, s⟩ := h
  refine ⟨pi_str p, SdI.mk (fun R Hs env σ H F wf r ds env' q Rk k => ?_) (fun R Hs env σ H F wf r x env' q Rk k => ?_)⟩
  · obtain ⟨d1, env1, q1, q⟩ := bnd_ok q
    obtain ⟨qg, rfl⟩ := lift_ok q
    unfold asStr at qg
    split at qg
    · cases qg
      refine s.ok r q1 fun v Hs1 H1 s1 r1 p1 _ => ?_
      exact ⟨_, p1.str_inv, k _ Hs1 H1 s1 r1 its_ok⟩
    · cases qg
  · rcases bnd_ex q with q | ⟨d1, env1, q1, q⟩
    · exact s.exn r q k
    · exact (lift_ex q).elim
theorem smallI_of {i : Int} (h : smallI i = true) : -(2 ^ 62) ≤ i ∧ i < 2 ^ 62 := of_decide_eq_true h
theorem si_range1 {a : Expr} {ta : TA} {fa : M (List D)} {p pos : Pos} (hg : Gl X "range") (hm : X.mg "range" = none) (ha : SA X cf W c [a] ta fa) (hs : starEach [a] X.env = [(false, eval a X.env)] := by rfl) : SI X cf W tg (.Call (.Name "range" p) [a] [] pos) (iRng1 ta) (iN gR1 fa) := by
  obtain ⟨q, s⟩ := ha
  refine ⟨pi_range1 hg hm q hs, SdI.mk (fun R Hs env σ H F wf r ds env' q Rk k => ?_) (fun R Hs env σ H F wf r x env' q Rk k => ?_)⟩
  · obtain ⟨d1, env1, q1, q⟩ := bnd_ok q
    obtain ⟨qg, rfl⟩ := lift_ok q
    unfold gR1 at qg
    split at qg
    · split at qg
      · rename_i hb
        cases qg
        refine s.ok r q1 fun v Hs1 H1 s1 r1 p1 => ?_
        obtain ⟨w, rfl, hw⟩ := p1.one
        exact ⟨_, by rw [hw.int_inv], (smallI_of hb).1, (smallI_of hb).2, k _ Hs1 H1 s1 r1 itr_ok⟩
      · cases qg
    · cases qg
  · rcases bnd_ex q with q | ⟨d1, env1, q1, q⟩
    · exact s.exn r q k
    · exact (lift_ex q).elim
theorem si_range2 {a b : Expr} {ta : TA} {fa : M (List D)} {p pos : Pos} (hg : Gl X "range") (hm : X.mg "range" = none) (ha : SA X cf W c [a, b] ta fa) (hs : starEach [a, b] X.env = [(false, eval a X.env), (false, eval b X.env)] := by rfl) (hs2 : starEach [b] X.env = [(false, eval b X.env)] := by rfl) : SI X cf W tg (.Call (.Name "range" p) [a, b] [] pos) (iRng2 ta) (iN gR2 fa) := by
  obtain ⟨q, s⟩ := ha
  refine ⟨pi_range2 hg hm q hs hs2, SdI.mk (fun R Hs env σ H F wf r ds env' q Rk k => ?_) (fun R Hs env σ H F wf r x env' q Rk k => ?_)⟩
  · obtain ⟨d1, env1, q1, q⟩ := bnd_ok q
    obtain ⟨qg, rfl⟩ := lift_ok q
    unfold gR2 at qg
    split at qg
    · split at qg
      · rename_i hb
        cases qg
        rw [Bool.and_eq_true] at hb
        refine s.ok r q1 fun v Hs1 H1 s1 r1 p1 => ?_
        obtain ⟨w, w2, rfl, hw, hw2⟩ := p1.two
        exact ⟨_, _, by rw [hw.int_inv, hw2.int_inv], ⟨(smallI_of hb.1).1, (smallI_of hb.1).2, (smallI_of hb.2).1, (smallI_of hb.2).2⟩, k _ Hs1 H1 s1 r1 itr_ok⟩
      · cases qg
    · cases qg
  · rcases bnd_ex q with q | ⟨d1, env1, q1, q⟩
    · exact s.exn r q k
    · exact (lift_ex q).elim
theorem si_enum {e : Expr} {ta : TA} {fa : M (List D)} {p pos tpos : Pos} {elts : List Expr} {kk : Nat} (hK : cf.K = X.K) (hg : Gl X "enumerate") (hm : X.mg "enumerate" = none) (ha : SA X cf W .S [e] ta fa) (hs : starEach [e] X.env = [(false, eval e X.env)] := by rfl) : SI X cf W (.Tuple elts kk tpos) (.Call (.Name "enumerate" p) [e] [] pos) (iEnum cf.K ta) (iN gEn fa) := by
  rw [hK]
  obtain ⟨q, s⟩ := ha
  refine ⟨pi_enum hg hm q hs, SdI.mk (fun R Hs env σ H F wf r ds env' q Rk k => ?_) (fun R Hs env σ H F wf r x env' q Rk k => ?_)⟩
  · obtain ⟨d1, env1, q1, q⟩ := bnd_ok q
    obtain ⟨qg, rfl⟩ := lift_ok q
    unfold gEn at qg
    split at qg
    · cases qg
      refine s.ok r q1 fun v Hs1 H1 s1 r1 p1 => ?_
      obtain ⟨w, rfl, hw⟩ := p1.one
      obtain ⟨a, xs, rfl, h1, h2⟩ := hw.lst_inv
      exact ⟨a, xs, rfl, .inl (.inl (r1.exs _ _ h1)), k _ Hs1 H1 s1 r1 (by rw [← hK]; exact ite_ok h1 h2)⟩
    · cases qg
  · rcases bnd_ex q with q | ⟨d1, env1, q1, q⟩
    · exact s.exn r q k
    · exact (lift_ex q).elim
def tgN (i : Nat) : D → M Unit := fun d e => .ok () (e.set i (some d))
def setAll : List Nat → List D → PEnv → Option PEnv
  | [], [], e => some e
  | i :: is, d :: ds, e => setAll is ds (e.set i (some d))
  | _, _, _ => none
def tgT (is : List Nat) : D → M Unit := fun d e => match d with
  | .tup ds => match setAll is ds e with
    | some e' => .ok () e'
    | none => .stuck
  | _ => .stuck
def SdG (cf : Cf) (is : List Nat) (g : TG) (tg : D → M Unit) : Prop :=
  ∀ (R : Rs) (Hs : Hp) (env : PEnv) (σ : L2.St) (H : Hp) (F : Nat → List Addr) (wf : List Addr), Rel cf R Hs env σ H F wf → ∀ (d : D) (v : V), Rp cf.K true Hs v d → ∀ Q : L2.St → Hp → Prop,
    match tg d env with
    | .ok _ env' => (∀ σ', Rel cf R Hs env' σ' H F wf → wipe σ' is = wipe σ is → (∀ j, j ∉ is → env'[j]? = env[j]?) → Q σ' H) → g v σ H Q
    | .ex _ _ => False
    | .stuck => True
structure SGt (X : Cx) (cf : Cf) (is : List Nat) (tg : Expr) (g : TG) (f : D → M Unit) : Prop where
  p : PG X tg g
  s : SdG cf is g f
theorem wipe_set (σ : L2.St) (i : Nat) (x : Option V) : ∀ is : List Nat, i ∈ is → wipe (σ.set i x) is = wipe σ is
  | [], h => by cases h
  | j :: is, h => by
    unfold wipe
    by_cases e : i ∈ is
    · rw [wipe_set σ i x is e]
    · have : i = j := (List.mem_cons.mp h).resolve_right e
      subst this
      have hh : ∀ is : List Nat, i ∉ is → wipe (σ.set i x) is = (wipe σ is).set i x := by
        intro is
        induction is with
        | nil => intro _; rfl
        | cons k is ih =>
          intro hn
          unfold wipe
          rw [ih (fun m => hn (List.mem_cons_of_mem _ m)), List.set_comm _ _ (fun e => hn (by rw [e]; exact List.mem_cons_self))]
      rw [hh is e, List.set_set]
theorem sgt_name {i : Nat} {x : Str} {pos : Pos} {is : List Nat} (hm : i ∈ is) (hk : cf.kd i = .S) (hN : X.N.Nodup) (hi : X.N[i]? = some x) (hx : Loc X.env.scope x) (hf : X.fn x = true ∨ X.env.scope.names.lookup x = some .local := by first | exact .inl rfl | exact .inr rfl | assumption) : SGt X cf is (.Name x pos) (gName i) (tgN i) :=
  ⟨pg_name hN hi hx hf, fun R Hs env σ H F wf r d v p Q k => k _ (r.put (by rw [hk]; exact fun z => by cases z) fun F' => by rw [hk]; exact p) (wipe_set σ i _ is hm) fun j hj => List.getElem?_set_ne (fun e => hj (by rw [← e]; exact hm))⟩
def SdGs (cf : Cf) (is js : List Nat) (g : TGs) : Prop :=
  ∀ (R : Rs) (Hs : Hp) (env : PEnv) (σ : L2.St) (H : Hp) (F : Nat → List Addr) (wf : List Addr), Rel cf R Hs env σ H F wf → ∀ (ds : List D) (vs : List V), RpL cf.K true Hs vs ds → ∀ Q : L2.St → Hp → Prop, ∀ env', setAll js ds env = some env' →
    (∀ σ', Rel cf R Hs env' σ' H F wf → wipe σ' is = wipe σ is → (∀ j, j ∉ is → env'[j]? = env[j]?) → Q σ' H) → g vs σ H Q
structure SGts (X : Cx) (cf : Cf) (is js : List Nat) (ts : List Expr) (g : TGs) : Prop where
  p : PGs X ts g
  s : SdGs cf is js g
theorem sgts_nil {is : List Nat} : SGts X cf is [] [] gNil := ⟨pgs_nil, fun R Hs env σ H F wf r ds vs p Q env' q k => by
  cases p with
  | nil => rw [setAll] at q; cases q; exact ⟨rfl, k σ r rfl fun _ _ => rfl⟩
  | cons _ _ => rw [setAll] at q <;> first | cases q | (intros; rintro ⟨⟩)⟩
theorem sgts_cons {is js : List Nat} {i : Nat} {x : Str} {pos : Pos} {es : List Expr} {g : TGs} (hm : i ∈ is) (hk : cf.kd i = .S) (hN : X.N.Nodup) (hi : X.N[i]? = some x) (hx : Loc X.env.scope x) (h2 : SGts X cf is js es g) (hf : X.fn x = true ∨ X.env.scope.names.lookup x = some .local := by first | exact .inl rfl | exact .inr rfl | assumption)
    (hs : (assignEach (.Name x pos :: es) X.env).map (·.2) = assign (.Name x pos) X.env :: (assignEach es X.env).map (·.2) := by rfl) : SGts X cf is (i :: js) (.Name x pos :: es) (gCons (gName i) g) := by
  obtain ⟨p, s⟩ := h2
  refine ⟨pgs_cons (pg_name hN hi hx hf) p hs, fun R Hs env σ H F wf r ds vs p Q env' q k => ?_⟩
  cases p with
  | nil => rw [setAll] at q <;> first | cases q | (intros; rintro ⟨⟩)
  | cons h1 h2 =>
    rw [setAll] at q
    refine ⟨_, _, rfl, ?_⟩
    refine s R Hs _ _ H F wf (r.put (by rw [hk]; exact fun z => by cases z) fun F' => by rw [hk]; exact h1) _ _ h2 Q env' q fun σ' r' w' kj => ?_
    exact k σ' r' (w'.trans (wipe_set σ i _ is hm)) fun j hj => (kj j hj).trans (List.getElem?_set_ne (fun e => hj (by rw [← e]; exact hm)))
theorem sgt_tup {is js : List Nat} {es : List Expr} {g : TGs} {k : Nat} {pos : Pos} (hK : cf.K = X.K) (hc : X.calm = true) (h : SGts X cf is js es g) (hl : es.length = js.length)
    (hn : (assignEach es X.env).length = js.length := by rfl) (hst : (assignEach es X.env).findIdx? (·.1) = none := by rfl) : SGt X cf is (.Tuple es k pos) (gTup cf.K js.length g) (tgT js) := by
  rw [hK]
  obtain ⟨p, s⟩ := h
  refine ⟨pg_tup hc p hn hst, fun R Hs env σ H F wf r d v p Q => ?_⟩
  cases d with
  | tup ds =>
    cases q : setAll js ds env with
    | none =>
      have e1 : tgT js (.tup ds) env = .stuck := by simp only [tgT, q]
      rw [e1]; trivial
    | some env' =>
      have e1 : tgT js (.tup ds) env = .ok () env' := by simp only [tgT, q]
      rw [e1]
      intro kk
      obtain ⟨a, xs, rfl, h1, h2⟩ := p.tup_inv
      have hlen : ∀ (js : List Nat) (ds : List D) (e e' : PEnv), setAll js ds e = some e' → ds.length = js.length := by
        intro js
        induction js with
        | nil => intro ds e e' q; cases ds with
          | nil => rfl
          | cons _ _ => rw [setAll] at q <;> first | cases q | (intros; rintro ⟨⟩)
        | cons j js ih => intro ds e e' q; cases ds with
          | nil => rw [setAll] at q <;> first | cases q | (intros; rintro ⟨⟩)
          | cons d ds => rw [setAll] at q; rw [List.length_cons, List.length_cons, ih ds _ _ q]
      refine ⟨a, xs, rfl, .inl (.inl (r.exs _ _ h1)), by rw [h2.length, hlen js ds env env' q], ?_⟩
      exact s R Hs env σ H F wf r ds xs h2 Q env' q kk
  | _ => unfold tgT; trivial
def sForL (tg : D → M Unit) (b : M Fl) : List D → M Fl
  | [] => ret .nx
  | d :: r => bnd (tg d) fun _ => bnd b (sAft (sForL tg b r))
def sFor (fi : M (List D)) (tg : D → M Unit) (b : M Fl) : M Fl := bnd fi fun ds => sForL tg b ds
theorem ss_for {iter : Expr} {body : List Stmt} {wi : TI} {g : TG} {fi : M (List D)} {is : List Nat} {ft : D → M Unit} {fb : M Fl} {pos : Pos} (hp : PassesOwn (model X.prog X.w) X.A X.env X.xe) (hc : X.calm = true) (hi : SI X cf W tg iter wi fi) (hg : SGt X cf is tg g ft) (hb : SSs X cf W body fb)
    (hs : ∀ x, foldedSetIterable iter X.env x = pure x := by intro _; rfl) : SS X cf W (.For tg iter body [] pos) (sFor fi ft fb) := by
  obtain ⟨pi, si⟩ := hi
  obtain ⟨pg, sg⟩ := hg
  obtain ⟨tb, pb, sb⟩ := hb
  refine ⟨_, ps_for hp hc pi pg pb hs, fun R Hs env σ H F wf r D hp => ?_⟩
  have h := si R Hs env σ H F wf r
  unfold sFor bnd at hp
  cases q : fi env with
  | stuck => rw [q] at hp; exact hp.elim
  | ex x env1 =>
    rw [q] at hp
    have h := h fun J H1 => ∃ W : Nat → Nat → L2.St → Hp → Prop, (∃ m, W 0 m σ H1) ∧ ∀ i m σ H, W i m σ H → (J.stop i H ∧ D.nx σ H) ∨ (J.go i H ∧ ∃ N : L2.St → Hp → Prop, (∀ σ' H', N σ' H' → ∃ m', m' < m ∧ W (i + 1) m' σ' H') ∧ ∀ x H', J.yld i H x H' → g x σ H' fun σ2 H2 => tb { D with nx := N, ct := N, bk := D.nx } σ2 H2)
    rw [q] at h
    exact h fun Hs1 H1 s1 r1 => hp Hs1 σ H1 F wf s1.ex r1
  | ok ds env1 =>
    rw [q] at hp
    have h := h fun J H1 => ∃ W : Nat → Nat → L2.St → Hp → Prop, (∃ m, W 0 m σ H1) ∧ ∀ i m σ H, W i m σ H → (J.stop i H ∧ D.nx σ H) ∨ (J.go i H ∧ ∃ N : L2.St → Hp → Prop, (∀ σ' H', N σ' H' → ∃ m', m' < m ∧ W (i + 1) m' σ' H') ∧ ∀ x H', J.yld i H x H' → g x σ H' fun σ2 H2 => tb { D with nx := N, ct := N, bk := D.nx } σ2 H2)
    rw [q] at h
    refine h fun J Hs1 H1 s1 r1 it => ?_
    refine ⟨fun i m σ H => ∃ Hs2 env2 F2 wf2, Ex Hs1 Hs2 ∧ Rel cf R Hs2 env2 σ H F2 wf2 ∧ i ≤ ds.length ∧ m = ds.length - i ∧ Post cf W R Hs2 D (sForL ft fb (ds.drop i) env2),
      ⟨ds.length, Hs1, env1, F, wf, Ex.refl _, r1, Nat.zero_le _, by simp, by rw [List.drop_zero]; exact Post.mono s1.ex hp⟩, ?_⟩
    rintro i m σ H ⟨Hs2, env2, F2, wf2, e2, r2, hi, rfl, hp⟩
    by_cases hlt : i < ds.length
    · refine .inr ⟨it.go i H hlt (e2.trans r2.exs), fun σ' H' => ∃ Hs3 env3 F3 wf3, Ex Hs1 Hs3 ∧ Rel cf R Hs3 env3 σ' H' F3 wf3 ∧ Post cf W R Hs3 D (sForL ft fb (ds.drop (i + 1)) env3), fun σ' H' hN => ?_, fun x H' y => ?_⟩
      · obtain ⟨Hs3, env3, F3, wf3, e3, r3, hp3⟩ := hN
        exact ⟨ds.length - (i + 1), by omega, Hs3, env3, F3, wf3, e3, r3, hlt, rfl, hp3⟩
      · obtain ⟨eg, hy⟩ := it.yld i H x H' (e2.trans r2.exs) hlt y
        obtain ⟨d, hd, hr⟩ := hy Hs2 e2 r2.exs
        have ed : ds.drop i = d :: ds.drop (i + 1) := by
          rw [List.drop_eq_getElem_cons hlt]
          rw [List.getElem?_eq_getElem hlt] at hd
          cases hd
          rfl
        rw [ed, sForL] at hp
        have r3 := r2.grow eg
        have e3 : Ex Hs2 (grow Hs2 H H') := Ex.grow r2.exs eg
        have hg := sg R _ env2 σ H' F2 wf2 r3 d x hr fun σ2 H2 => tb { D with nx := fun σ' H' => ∃ Hs3 env3 F3 wf3, Ex Hs1 Hs3 ∧ Rel cf R Hs3 env3 σ' H' F3 wf3 ∧ Post cf W R Hs3 D (sForL ft fb (ds.drop (i + 1)) env3), ct := fun σ' H' => ∃ Hs3 env3 F3 wf3, Ex Hs1 Hs3 ∧ Rel cf R Hs3 env3 σ' H' F3 wf3 ∧ Post cf W R Hs3 D (sForL ft fb (ds.drop (i + 1)) env3), bk := D.nx } σ2 H2
        cases qt : ft d env2 with
        | stuck =>
          rw [bnd_of_stuck qt] at hp; exact hp.elim
        | ex x env3 => rw [qt] at hg; exact hg.elim
        | ok u env3 =>
          rw [bnd_of_ok qt] at hp
          rw [qt] at hg
          refine hg fun σ2 r4 _ _ => ?_
          refine sb R _ env3 σ2 H' F2 wf2 r4 _ ?_
          have hp : Post cf W R _ D (bnd fb (sAft (sForL ft fb (ds.drop (i + 1)))) env3) := Post.mono e3 hp
          unfold bnd at hp
          cases qb : fb env3 with
          | ok f env4 =>
            rw [qb] at hp
            cases f with
            | nx => exact fun Hs' σ' H' F' wf' e r' => ⟨Hs', env4, F', wf', (e2.trans e3).trans e, r', Post.mono e hp⟩
            | ct => exact fun Hs' σ' H' F' wf' e r' => ⟨Hs', env4, F', wf', (e2.trans e3).trans e, r', Post.mono e hp⟩
            | bk => exact fun Hs' σ' H' F' wf' e r' => hp Hs' σ' H' F' wf' e r'
            | rt d => exact hp
          | ex x env4 => rw [qb] at hp; exact hp
          | stuck => rw [qb] at hp; exact hp
    · have e : i = ds.length := by omega
      subst e
      rw [List.drop_length] at hp
      exact .inl ⟨it.stop H (e2.trans r2.exs), hp Hs2 σ H F2 wf2 (Ex.refl _) r2⟩
end
end MV
namespace MV
open PySem L2
abbrev W0 : WX := fun _ _ _ _ => False
def wipeE : List Nat → PEnv → PEnv
  | [], e => e
  | v :: vs, e => (wipeE vs e).set v none
def restE : List Nat → PEnv → PEnv → PEnv
  | [], _, e1 => e1
  | v :: vs, e, e1 => (restE vs e e1).set v ((e[v]?).getD none)
theorem wipeE_len : ∀ (is : List Nat) (e : PEnv), (wipeE is e).length = e.length
  | [], _ => rfl
  | v :: vs, e => by unfold wipeE; rw [List.length_set, wipeE_len vs e]
theorem restE_len : ∀ (is : List Nat) (e e1 : PEnv), (restE is e e1).length = e1.length
  | [], _, _ => rfl
  | v :: vs, e, e1 => by unfold restE; rw [List.length_set, restE_len vs e e1]
theorem wipeE_get {is : List Nat} {e : PEnv} {j : Nat} {d : D} (h : (wipeE is e)[j]? = some (some d)) : e[j]? = some (some d) ∧ j ∉ is := by
  induction is with
  | nil => exact ⟨h, by simp⟩
  | cons v vs ih =>
    unfold wipeE at h
    rcases get_set h with ⟨_, z, _⟩ | ⟨ne, h⟩
    · cases z
    · obtain ⟨h1, h2⟩ := ih h
      exact ⟨h1, fun m => (List.mem_cons.mp m).elim (fun z => ne z.symm) h2⟩
theorem wipeE_out {is : List Nat} {e : PEnv} {j : Nat} (h : j ∉ is) : (wipeE is e)[j]? = e[j]? := by
  induction is with
  | nil => rfl
  | cons v vs ih =>
    unfold wipeE
    rw [List.getElem?_set_ne (fun z => h (by rw [z]; exact List.mem_cons_self)), ih fun m => h (List.mem_cons_of_mem _ m)]
theorem restE_out {is : List Nat} {e e1 : PEnv} {j : Nat} (h : j ∉ is) : (restE is e e1)[j]? = e1[j]? := by
  induction is with
  | nil => rfl
  | cons v vs ih =>
    unfold restE
    rw [List.getElem?_set_ne (fun z => h (by rw [z]; exact List.mem_cons_self)), ih fun m => h (List.mem_cons_of_mem _ m)]
theorem restE_in {is : List Nat} {e e1 : PEnv} {j : Nat} (h : j ∈ is) (hl : e.length = e1.length) : (restE is e e1)[j]? = e[j]? := by
  induction is with
  | nil => cases h
  | cons v vs ih =>
    unfold restE
    by_cases z : v = j
    · subst z
      by_cases hv : v < e.length
      · rw [List.getElem?_set_self (by rw [restE_len]; omega), List.getElem?_eq_getElem hv]; rfl
      · rw [List.getElem?_eq_none (by rw [List.length_set, restE_len]; omega), List.getElem?_eq_none (by omega)]
    · rw [List.getElem?_set_ne z]
      exact ih ((List.mem_cons.mp h).resolve_left fun q => z q.symm)
def lcGo (is : List Nat) (tg : D → M Unit) (tt : M Bool) (fe : M D) : List D → List D → M (List D)
  | [], acc => ret acc
  | d :: r, acc => bnd (tg d) fun _ => bnd tt fun k =>
      if k then bnd fe fun y => bnd (lift (if acc.length < LIM then some () else none)) fun _ => fun e => lcGo is tg tt fe r (acc ++ [y]) (wipeE is e)
      else fun e => lcGo is tg tt fe r acc (wipeE is e)
def eLc (is : List Nat) (fi : M (List D)) (tg : D → M Unit) (tt : M Bool) (fe : M D) : M D := bnd fi fun ds => fun e => match lcGo is tg tt fe ds [] (wipeE is e) with
  | .ok acc e1 => .ok (.lst acc) (restE is e e1)
  | _ => .stuck
def tTrue : M Bool := ret true
structure ItOkW (K : PySem.W.Frag) (J : It) (G1 Hs1 : Hp) (ds : List D) : Prop where
  go : ∀ i H, i < ds.length → Ex G1 H → J.go i H
  stop : ∀ H, Ex G1 H → J.stop ds.length H
  yld : ∀ i H x H', Ex G1 H → i < ds.length → J.yld i H x H' → Ex H H' ∧ ∀ G, Ex Hs1 G → Ex G H → ∃ d, ds[i]? = some d ∧ Rp K true (grow G H H') x d
theorem ItOk.w {K : PySem.W.Frag} {J : It} {Hs1 : Hp} {ds : List D} (h : ItOk K J Hs1 ds) : ItOkW K J Hs1 Hs1 ds := ⟨h.go, h.stop, h.yld⟩
def SdIB (cf : Cf) (W : WX) (wi : TI) (fi : M (List D)) : Prop :=
  ∀ (R : Rs) (Hs : Hp) (env : PEnv) (σ : L2.St) (H : Hp) (F : Nat → List Addr) (wf : List Addr), Rel cf R Hs env σ H F wf → ∀ Rk : It → Hp → Prop,
    match fi env with
    | .ok ds env' => (∀ J G1 Hs' H', Stp cf wf env Hs H env' Hs' H' → Rel cf R Hs' env' σ H' F wf → Ex G1 (rm H' wf) → ItOkW cf.K J G1 Hs' ds → Rk J H') → wi σ H Rk
    | .ex x env' => (∀ Hs' H', Stp cf wf env Hs H env' Hs' H' → Rel cf R Hs' env' σ H' F wf → W (cf.cv x) none σ H') → wi σ H Rk
    | .stuck => True
structure SIB (X : Cx) (cf : Cf) (W : WX) (tg iter : Expr) (wi : TI) (fi : M (List D)) : Prop where
  p : PI X tg iter wi
  s : SdIB cf W wi fi
section
variable {X : Cx} {cf : Cf} {W : WX} {c : Cls} {n n1 : Bool}
theorem SdI.w {wi : TI} {fi : M (List D)} (h : SdI cf W wi fi) : SdIB cf W wi fi := fun R Hs env σ H F wf r Rk => by
  have h := h R Hs env σ H F wf r Rk
  cases q : fi env with
  | ok ds env' => rw [q] at h; exact fun k => h fun J Hs' H' s r' it => k J Hs' Hs' H' s r' (rg_le (c := .S) (c' := .B) .sb (H0 := R.H0) (Hst := H) r'.exs r.dom0 fun a m => (r'.wdom a m).2) it.w
  | ex x env' => rw [q] at h; exact h
  | stuck => trivial
theorem SI.w {tg iter : Expr} {wi : TI} {fi : M (List D)} (h : SI X cf W tg iter wi fi) : SIB X cf W tg iter wi fi := ⟨h.p, h.s.w⟩
def asLs : D → Option (List D)
  | .lst ds => if ds.all D.sc then some ds else none
  | _ => none
def iLs (f : M D) : M (List D) := bnd f fun d => lift (asLs d)
theorem Rel.bump {R : Rs} {Hs : Hp} {env : PEnv} {σ : L2.St} {H : Hp} {F : Nat → List Addr} {wf : List Addr} {p : Addr} {o : HO} (r : Rel cf R Hs env σ H F wf) (hs : Hs p = none) (hF : ∀ i, p ∉ F i) : Rel cf R Hs env σ (upd H p o) F wf where
  len := r.len
  exs := fun a u h => by rw [upd_ne (fun e => by subst e; rw [hs] at h; cases h)]; exact r.exs a u h
  ex0 := r.ex0
  dom0 := fun a h => by
    by_cases e : a = p
    · subst e; rw [upd_same]; exact fun z => by cases z
    · rw [upd_ne e]; exact r.dom0 a h
  slot := fun j d h => by
    obtain ⟨w, h1, h2⟩ := r.slot j d h
    refine ⟨w, h1, ?_⟩
    have np : ∀ a ∈ F j, ∀ u, H a = some u → upd H p o a = some u := fun a m u h => by
      rw [upd_ne (fun e => by subst e; exact hF j m)]; exact h
    cases q : cf.kd j with
    | S => rw [q] at h2; exact h2
    | N => rw [q] at h2; exact h2
    | Q => rw [q] at h2; exact h2
    | P => rw [q] at h2; exact Own.keep (Ex.refl _) h2 np
    | M => rw [q] at h2; exact ⟨Own.keep (Ex.refl _) h2.1 np, h2.2⟩
    | W =>
      rw [q] at h2
      rcases h2 with ⟨p2, xs, ds, e1, e2, e3, e4, e5⟩ | ⟨C, hC, h2⟩
      · exact .inl ⟨p2, xs, ds, e1, e2, e3, np p2 (by rw [e3]; exact List.mem_singleton.mpr rfl) _ e4, e5⟩
      · exact .inr ⟨C, hC, h2.mono (Ex.refl _) np⟩
  nod := r.nod
  dis := r.dis
  fdom := fun j a h => by
    by_cases e : a = p
    · subst e; rw [upd_same]; exact fun z => by cases z
    · rw [upd_ne e]; exact r.fdom j a h
  uns := r.uns
  new := r.new
  volw := r.volw
  volb := r.volb
  wdom := fun a h => by
    obtain ⟨h1, h2⟩ := r.wdom a h
    refine ⟨?_, h2⟩
    by_cases e : a = p
    · subst e; rw [upd_same]; exact fun z => by cases z
    · rw [upd_ne e]; exact h1
  ior := r.ior
theorem Rel.share {R : Rs} {Hs : Hp} {env : PEnv} {σ : L2.St} {H : Hp} {F : Nat → List Addr} {wf : List Addr} {p : Addr} {o : HO} (r : Rel cf R Hs env σ H F wf) (hs : Hs p = none) (hH : H p = some o) (hF : ∀ i, p ∉ F i) (hw : p ∉ wf) : Rel cf R (upd Hs p o) env σ H F wf where
  len := r.len
  exs := fun a u h => by
    by_cases e : a = p
    · subst e; rw [upd_same] at h; cases h; exact hH
    · rw [upd_ne e] at h; exact r.exs a u h
  ex0 := fun a u h n => Ex.new hs a u (r.ex0 a u h n)
  dom0 := r.dom0
  slot := fun j d h => by
    obtain ⟨w, h1, h2⟩ := r.slot j d h
    refine ⟨w, h1, ?_⟩
    cases q : cf.kd j with
    | S => rw [q] at h2; exact Rp.mono (Ex.new hs) h2
    | N => rw [q] at h2; exact Rp.mono (rs_mono (Ex.new hs)) h2
    | Q => rw [q] at h2; exact Rp.mono (Ex.new hs) h2
    | P => rw [q] at h2; exact Own.mono (th_mono (rs_mono (Ex.new hs))) (Ex.refl _) h2
    | M => rw [q] at h2; exact ⟨Own.mono (rs_mono (Ex.new hs)) (Ex.refl _) h2.1, h2.2⟩
    | W => rw [q] at h2; exact h2.imp id fun ⟨C, hC, h2⟩ => ⟨C, hC, h2.mono (Ex.new hs) fun _ _ _ h => h⟩
  nod := r.nod
  dis := r.dis
  fdom := r.fdom
  uns := fun j a h => by rw [upd_ne (fun e => by subst e; exact hF j h)]; exact r.uns j a h
  new := r.new
  volw := r.volw
  volb := r.volb
  wdom := fun a h => ⟨(r.wdom a h).1, by rw [upd_ne (fun e => by subst e; exact hw h)]; exact (r.wdom a h).2⟩
  ior := r.ior
theorem Rel.wipe {R : Rs} {Hs : Hp} {env : PEnv} {σ σ' : L2.St} {H : Hp} {F : Nat → List Addr} {wf : List Addr} {is : List Nat} (r : Rel cf R Hs env σ H F wf) (hk : ∀ i ∈ is, cf.kd i = .S) (hw : L2.wipe σ is = L2.wipe σ' is) : Rel cf R Hs (wipeE is env) (L2.wipe σ' is) H F wf where
  len := by rw [wipeE_len, ← hw, wipe_length]; exact r.len
  exs := r.exs
  ex0 := r.ex0
  dom0 := r.dom0
  slot := fun j d h => by
    obtain ⟨h1, h2⟩ := wipeE_get h
    obtain ⟨v, h3, h4⟩ := r.slot j d h1
    exact ⟨v, by rw [← hw, wipe_out h2]; exact h3, h4⟩
  nod := r.nod
  dis := r.dis
  fdom := r.fdom
  uns := r.uns
  new := r.new
  volw := r.volw
  volb := r.volb
  wdom := r.wdom
  ior := fun p h => by
    obtain ⟨h1, h2, h3, d, h4⟩ := r.ior p h
    have n0 : 0 ∉ is := fun m => by rw [hk 0 m] at h3; cases h3
    exact ⟨by rw [← hw, wipe_out n0]; exact h1, h2, h3, d, by rw [wipeE_out n0]; exact h4⟩
theorem Rel.rest {R : Rs} {Hs0 Hs : Hp} {env0 env : PEnv} {σ : L2.St} {H0 H : Hp} {F : Nat → List Addr} {wf : List Addr} {is : List Nat} (r0 : Rel cf R Hs0 env0 σ H0 F wf) (r : Rel cf R Hs env (L2.wipe σ is) H F wf) (ex : Ex Hs0 Hs) (hk : ∀ i ∈ is, cf.kd i = .S) : Rel cf R Hs (restE is env0 env) σ H F wf where
  len := by rw [restE_len]; have := r.len; rw [wipe_length] at this; exact this
  exs := r.exs
  ex0 := r.ex0
  dom0 := r.dom0
  slot := fun j d h => by
    by_cases m : j ∈ is
    · rw [restE_in m (by have := r.len; rw [wipe_length] at this; rw [this, r0.len])] at h
      obtain ⟨v, h1, h2⟩ := r0.slot j d h
      rw [hk j m] at h2 ⊢
      exact ⟨v, h1, Rp.mono ex h2⟩
    · rw [restE_out m] at h
      obtain ⟨v, h1, h2⟩ := r.slot j d h
      exact ⟨v, (wipe_some h1).1, h2⟩
  nod := r.nod
  dis := r.dis
  fdom := r.fdom
  uns := r.uns
  new := r.new
  volw := r.volw
  volb := r.volb
  wdom := r.wdom
  ior := fun p h => by
    obtain ⟨h1, h2, h3, d, h4⟩ := r.ior p h
    have n0 : 0 ∉ is := fun m => by rw [hk 0 m] at h3; cases h3
    exact ⟨(wipe_some h1).1, h2, h3, d, by rw [restE_out n0]; exact h4⟩
def Cls.sh : Cls → Bool
  | .L => false
  | .B => false
  | _ => true
theorem rg_sh {c : Cls} (h : c.sh = true) {H0 Hs Hst H H' : Hp} {wf wf' : List Addr} : rg c H0 Hs Hst H wf = rg c H0 Hs Hst H' wf' := by
  cases c <;> first | rfl | cases h
theorem rg_shm {c : Cls} (h : c.sh = true) {H0 Hs Hs' Hst H H' : Hp} {wf wf' : List Addr} (e : Ex Hs Hs') : Ex (rg c H0 Hs Hst H wf) (rg c H0 Hs' Hst H' wf') := by
  cases c with
  | V => exact rs_mono e
  | N => exact rs_mono e
  | S => exact e
  | L => cases h
  | B => cases h
theorem sdt_true : SdT cf W tYes tTrue := fun R Hs env σ H F wf r Q k => k Hs H Stp.refl r
theorem sd_lc {wi : TI} {g : TG} {tt : TT} {te : TE} {is : List Nat} {fi : M (List D)} {tg : D → M Unit} {ft : M Bool} {fe : M D} (hc : c.sh = true) (hk : ∀ i ∈ is, cf.kd i = .S) (si : SdIB cf W wi fi) (sg : SdG cf is g tg) (st : SdT cf W0 tt ft) (se : Sd cf W0 c n1 te fe) : Sd cf W c true (tLc wi g tt te is) (eLc is fi tg ft fe) := by
  refine Sd.mk (fun R Hs env σ H F wf r d env' q Q k => ?_) (fun R Hs env σ H F wf r x env' q Q k => ?_)
  · obtain ⟨ds, env1, q1, q⟩ := bnd_ok q
    have h := si R Hs env σ H F wf r
    refine (show ∀ Rk : It → Hp → Prop, (∀ J G1 Hs' H', Stp cf wf env Hs H env1 Hs' H' → Rel cf R Hs' env1 σ H' F wf → Ex G1 (rm H' wf) → ItOkW cf.K J G1 Hs' ds → Rk J H') → wi σ H Rk from fun Rk kk => by
      have h := h Rk
      rw [q1] at h
      exact h kk) _ fun J G1 Hs1 H1 s1 r1 hG it => ?_
    intro Dp hD
    cases q2 : lcGo is tg ft fe ds [] (wipeE is env1) with
    | stuck => simp only [q2] at q; cases q
    | ex x e2 => simp only [q2] at q; cases q
    | ok acc e2 =>
    simp only [q2] at q
    cases q
    have rw0 : Rel cf R Hs1 (wipeE is env1) (L2.wipe σ is) H1 F wf := r1.wipe hk rfl
    have dF : ∀ i, Dp ∉ F i := fun i m => r1.fdom i Dp m hD
    have dW : Dp ∉ wf := fun m => (r1.wdom Dp m).1 hD
    have dS : Hs1 Dp = none := r1.exs.back hD
    have dst : H Dp = none := by
      cases z : H Dp with
      | none => rfl
      | some o => exact absurd hD (s1.dom Dp (by rw [z]; exact fun y => by cases y))
    refine ⟨fun i m H' => ∃ Hs2 env2 accV acc2, i ≤ ds.length ∧ m = ds.length - i ∧ Stp cf wf (wipeE is env1) Hs1 H1 env2 Hs2 H' ∧ Rel cf R Hs2 env2 (L2.wipe σ is) H' F wf ∧ H' Dp = some (.lst accV) ∧ Hs2 Dp = none ∧ RpL cf.K true (rg c R.H0 Hs2 H H1 wf) accV acc2 ∧ lcGo is tg ft fe (ds.drop i) acc2 env2 = .ok acc e2,
      ⟨ds.length, Hs1, wipeE is env1, [], [], Nat.zero_le _, by simp, ⟨fun a h => (Ex.new hD).dom h, Ex.refl _, fun a o _ h => Ex.new hD a o h, fun _ _ => rfl, fun _ _ => rfl⟩, rw0.bump dS dF, upd_same, dS, .nil, by rw [List.drop_zero]; exact q2⟩, ?_⟩
    rintro i m H' ⟨Hs2, env2, accV, acc2, hi, rfl, s2, r2, hD2, hS2, ra, q3⟩
    have e12 : Ex G1 H' := fun a o h => by
      have h := hG a o h
      unfold rm at h
      split at h
      · cases h
      · rename_i hw; exact s2.keep a o hw h
    by_cases hlt : i < ds.length
    · refine .inr ⟨it.go i H' hlt e12, fun H'' => ∃ Hs2 env2 accV acc2, Stp cf wf (wipeE is env1) Hs1 H1 env2 Hs2 H'' ∧ Rel cf R Hs2 env2 (L2.wipe σ is) H'' F wf ∧ H'' Dp = some (.lst accV) ∧ Hs2 Dp = none ∧ RpL cf.K true (rg c R.H0 Hs2 H H1 wf) accV acc2 ∧ lcGo is tg ft fe (ds.drop (i + 1)) acc2 env2 = .ok acc e2, fun H'' hN => ?_, fun x H3 y => ?_⟩
      · obtain ⟨Hs3, env3, accV3, acc3, z⟩ := hN
        exact ⟨ds.length - (i + 1), by omega, Hs3, env3, accV3, acc3, hlt, rfl, z⟩
      · obtain ⟨eg, hy⟩ := it.yld i H' x H3 e12 hlt y
        obtain ⟨d, hd, hr⟩ := hy Hs2 s2.ex r2.exs
        have ed : ds.drop i = d :: ds.drop (i + 1) := by
          rw [List.drop_eq_getElem_cons hlt]
          rw [List.getElem?_eq_getElem hlt] at hd
          cases hd
          rfl
        rw [ed, lcGo] at q3
        obtain ⟨u, env3, qt, q4⟩ := bnd_ok q3
        obtain ⟨b, env4, qb, q5⟩ := bnd_ok q4
        have r3 := r2.grow eg
        have s3 : Stp cf wf env2 Hs2 H' env2 (grow Hs2 H' H3) H3 := Stp.grow r2.exs eg
        have hD3 : H3 Dp = some (.lst accV) := eg _ _ hD2
        have hS3 : grow Hs2 H' H3 Dp = none := by rw [grow_some hD2]; exact hS2
        have hg := sg R _ env2 (L2.wipe σ is) H3 F wf r3 d x hr
        refine (show ∀ Q : L2.St → Hp → Prop, (∀ σ', Rel cf R (grow Hs2 H' H3) env3 σ' H3 F wf → L2.wipe σ' is = L2.wipe (L2.wipe σ is) is → (∀ j, j ∉ is → env3[j]? = env2[j]?) → Q σ' H3) → g x (L2.wipe σ is) H3 Q from fun Q kk => by
          have hg := hg Q
          rw [qt] at hg
          exact hg kk) _ fun σ2 r4 w4 kj => ?_
        have ww : L2.wipe (L2.wipe σ is) is = L2.wipe σ is := by
          have : ∀ (js : List Nat), (∀ j ∈ js, j ∈ is) → L2.wipe (L2.wipe σ is) js = L2.wipe σ is := by
            intro js
            induction js with
            | nil => intro _; rfl
            | cons v vs ih =>
              intro hj
              show (L2.wipe (L2.wipe σ is) vs).set v none = L2.wipe σ is
              rw [ih fun j m => hj j (List.mem_cons_of_mem _ m)]
              apply List.ext_getElem?
              intro j
              by_cases e : v = j
              · subst e
                by_cases hl : v < (L2.wipe σ is).length
                · rw [List.getElem?_set_self hl]
                  cases z : (L2.wipe σ is)[v]? with
                  | none => rw [List.getElem?_eq_getElem hl] at z; cases z
                  | some o =>
                    cases o with
                    | none => rfl
                    | some w => exact absurd (hj v List.mem_cons_self) (wipe_some z).2
                · rw [List.getElem?_eq_none (by rw [List.length_set]; omega), List.getElem?_eq_none (by omega)]
              · rw [List.getElem?_set_ne e]
          exact this is fun _ m => m
        rw [ww] at w4
        refine ⟨w4, ?_⟩
        have kp4 : ∀ j, cf.kd j ≠ .W → j ∉ is → env3[j]? = (wipeE is env1)[j]? := fun j hj hn => (kj j hn).trans (s2.kp j hj)
        refine st.ok r4 qb fun Hs5 H5 s5 r5 => ?_
        have hD5 : H5 Dp = some (.lst accV) := s5.keep _ _ dW hD3
        have hS5 : Hs5 Dp = none := by rw [s5.same Dp (by rw [hD3]; exact fun z => by cases z)]; exact hS3
        -- what holds behind a turn
        have fin : ∀ (Hs6 H6 : Hp) (env6 : PEnv) (accV6 : List V) (acc6 : List D), Stp cf wf env4 Hs5 H5 env6 Hs6 H6 → Rel cf R Hs6 env6 σ2 H6 F wf → RpL cf.K true (rg c R.H0 Hs6 H H1 wf) accV6 acc6 → lcGo is tg ft fe (ds.drop (i + 1)) acc6 (wipeE is env6) = .ok acc e2 → ∀ H7, (H7 = H6 ∧ accV6 = accV ∨ H7 = upd H6 Dp (.lst accV6)) →
            ∃ Hs2 env2 accV acc2, Stp cf wf (wipeE is env1) Hs1 H1 env2 Hs2 H7 ∧ Rel cf R Hs2 env2 (L2.wipe σ is) H7 F wf ∧ H7 Dp = some (.lst accV) ∧ Hs2 Dp = none ∧ RpL cf.K true (rg c R.H0 Hs2 H H1 wf) accV acc2 ∧ lcGo is tg ft fe (ds.drop (i + 1)) acc2 env2 = .ok acc e2 := by
          intro Hs6 H6 env6 accV6 acc6 s6 r6 ra6 q6 H7 h7
          have hD6 : H6 Dp = some (.lst accV) := s6.keep _ _ dW hD5
          have hS6 : Hs6 Dp = none := by rw [s6.same Dp (by rw [hD5]; exact fun z => by cases z)]; exact hS5
          have r6w : Rel cf R Hs6 (wipeE is env6) (L2.wipe σ is) H6 F wf := r6.wipe hk w4
          have kpw : ∀ j, cf.kd j ≠ .W → (wipeE is env6)[j]? = (wipeE is env1)[j]? := fun j hj => by
            by_cases m : j ∈ is
            · have hl : (wipeE is env6).length = (wipeE is env1).length := by rw [r6w.len, rw0.len]
              cases z : (wipeE is env6)[j]? with
              | none => rw [List.getElem?_eq_none_iff] at z; rw [List.getElem?_eq_none (by omega)]
              | some o =>
                cases o with
                | some w => exact absurd m (wipeE_get z).2
                | none =>
                  cases z2 : (wipeE is env1)[j]? with
                  | none => rw [List.getElem?_eq_none_iff] at z2; rw [List.getElem?_eq_none (by omega)] at z; cases z
                  | some o2 =>
                    cases o2 with
                    | some w => exact absurd m (wipeE_get z2).2
                    | none => rfl
            · rw [wipeE_out m, s6.kp j hj, s5.kp j hj, kp4 j hj m]
          have keep6 : ∀ a o, a ∉ wf → H1 a = some o → H6 a = some o := fun a o hw h => s6.keep a o hw (s5.keep a o hw (s3.keep a o hw (s2.keep a o hw h)))
          have dom6 : ∀ a, H1 a ≠ none → H6 a ≠ none := fun a h => s6.dom a (s5.dom a (s3.dom a (s2.dom a h)))
          have ex6 : Ex Hs1 Hs6 := ((s2.ex.trans s3.ex).trans s5.ex).trans s6.ex
          have same6 : ∀ a, H1 a ≠ none → Hs6 a = Hs1 a := fun a h => ((s6.same a (s5.dom a (s3.dom a (s2.dom a h)))).trans (s5.same a (s3.dom a (s2.dom a h)))).trans ((s3.same a (s2.dom a h)).trans (s2.same a h))
          rcases h7 with ⟨rfl, rfl⟩ | rfl
          · exact ⟨Hs6, wipeE is env6, accV6, acc6, ⟨dom6, ex6, keep6, same6, kpw⟩, r6w, hD6, hS6, ra6, q6⟩
          · refine ⟨Hs6, wipeE is env6, accV6, acc6, ⟨fun a h => ?_, ex6, fun a o hw h => ?_, same6, kpw⟩, r6w.bump hS6 dF, upd_same, hS6, ra6, q6⟩
            · have : a ≠ Dp := fun e => by subst e; exact h hD
              rw [upd_ne this]; exact dom6 a h
            · have : a ≠ Dp := fun e => by subst e; rw [hD] at h; cases h
              rw [upd_ne this]; exact keep6 a o hw h
        have ra5 : RpL cf.K true (rg c R.H0 Hs5 H H1 wf) accV acc2 := ra.mono (rg_shm hc (s3.ex.trans s5.ex))
        cases b with
        | false => exact fin Hs5 H5 env4 accV acc2 Stp.refl r5 ra5 q5 H5 (.inl ⟨rfl, rfl⟩)
        | true =>
          obtain ⟨y6, env6, qe, q6⟩ := bnd_ok q5
          obtain ⟨u2, env7, ql, q7⟩ := bnd_ok q6
          obtain ⟨ql, rfl⟩ := lift_ok ql
          split at ql
          · rename_i hl
            refine se.ok r5 qe fun v6 Hs6 H6 s6 r6 p6 _ => ?_
            refine ⟨accV, s6.keep _ _ dW hD5, by rw [ra.length]; exact lim_lt hl, ?_⟩
            have dd : ∀ a, H a ≠ none → H5 a ≠ none := fun a h => s5.dom a (s3.dom a (s2.dom a (s1.dom a h)))
            have p6' : Rp cf.K true (rg c R.H0 Hs6 H H1 wf) v6 y6 := by
              have := p6.mono (rg_start dd)
              rw [rg_sh hc (H' := H1) (wf' := wf)] at this
              exact this
            exact fin Hs6 H6 env7 (accV ++ [v6]) (acc2 ++ [y6]) s6 r6 ((ra5.mono (rg_shm hc s6.ex)).append (.cons p6' .nil)) q7 _ (.inr rfl)
          · cases ql
    · have e : i = ds.length := by omega
      subst e
      rw [List.drop_length, lcGo] at q3
      cases q3
      refine .inl ⟨it.stop H' e12, ?_⟩
      have exn : Ex Hs2 (upd Hs2 Dp (.lst accV)) := Ex.new hS2
      have r6 : Rel cf R (upd Hs2 Dp (.lst accV)) e2 (L2.wipe σ is) H' F wf := r2.share hS2 hD2 dF dW
      have r7 : Rel cf R (upd Hs2 Dp (.lst accV)) (restE is env1 e2) σ H' F wf := Rel.rest r1 r6 (s2.ex.trans exn) hk
      have hroot : rg c R.H0 (upd Hs2 Dp (.lst accV)) H H1 wf Dp = some (.lst accV) := by
        have h0 : R.H0 Dp = none := by
          cases z : R.H0 Dp with
          | none => rfl
          | some o => exact absurd hD (r1.dom0 Dp (by rw [z]; exact fun y => by cases y))
        cases c with
        | V => show rs _ _ Dp = _; rw [rs_none dst, upd_same]
        | N => show rs _ _ Dp = _; rw [rs_none h0, upd_same]
        | S => exact upd_same
        | L => cases hc
        | B => cases hc
      refine k (.ref Dp) (upd Hs2 Dp (.lst accV)) H' ⟨fun a h => s2.dom a (s1.dom a h), (s1.ex.trans s2.ex).trans exn, fun a o hw h => s2.keep a o hw (s1.keep a o hw h), fun a h => ?_, fun j hj => ?_⟩ r7 ?_ ?_
      · rw [upd_ne (fun e => by subst e; exact h dst), s2.same a (s1.dom a h), s1.same a h]
      · by_cases m : j ∈ is
        · rw [restE_in m (by have := r6.len; rw [wipe_length] at this; rw [this, r1.len])]; exact s1.kp j hj
        · rw [restE_out m, s2.kp j hj, wipeE_out m]; exact s1.kp j hj
      · rw [rg_sh hc (H' := H1) (wf' := wf)]
        exact .lst hroot (ra.mono (rg_shm hc exn))
      · intro _ hf
        refine .lst (show rs (upd Hs2 Dp (.lst accV)) H Dp = _ by rw [rs_none dst, upd_same]) (ra.sc_any hf _ _)
  · rcases bnd_ex q with q | ⟨ds, env1, q1, q⟩
    · have h := si R Hs env σ H F wf r
      have h := h fun J H1 => ∀ D, H1 D = none → ∃ W : Nat → Nat → Hp → Prop, (∃ m, W 0 m (upd H1 D (.lst []))) ∧ ∀ i m H, W i m H → (J.stop i H ∧ Q (.ref D) H) ∨ (J.go i H ∧ ∃ Nx : Hp → Prop, (∀ H', Nx H' → ∃ m', m' < m ∧ W (i + 1) m' H') ∧ ∀ x H', J.yld i H x H' → g x (L2.wipe σ is) H' fun σ2 H2 => L2.wipe σ2 is = L2.wipe σ is ∧ tt σ2 H2 fun b H3 => if b = true then te σ2 H3 fun y H4 => ∃ acc, H4 D = some (.lst acc) ∧ acc.length < sizeLine ∧ Nx (upd H4 D (.lst (acc ++ [y]))) else Nx H3)
      rw [q] at h
      exact h k
    · split at q <;> cases q
end
end MV
namespace MV
open PySem PySem.Spec PyProof.Rows L2
section
variable {X : Cx} {cf : Cf} {W : WX} {c : Cls} {n n1 n2 : Bool}
structure STs (X : Cx) (cf : Cf) (W : WX) (es : List Expr) (t : TT) (f : M Bool) : Prop where
  p : PTs X es t
  s : SdT cf W t f
theorem sts_nil : STs X cf W [] tYes tTrue := ⟨pts_nil, sdt_true⟩
theorem sts_one {e : Expr} {t : TT} {f : M Bool} (h : ST X cf W e t f) : STs X cf W [e] t f := ⟨pts_one h.p, h.s⟩
theorem se_lc {elt tg iter : Expr} {ifs : List Expr} {scope : Scope} {own : List (Str × Nat)} {pos : Pos} {wi : TI} {g : TG} {tt : TT} {te : TE} {fi : M (List D)} {ftg : D → M Unit} {ft : M Bool} {fe : M D} (hsh : c.sh = true) (hk : ∀ i ∈ own.map (·.2), cf.kd i = .S) (hc : X.calm = true) (hN : X.N.Nodup) (hi : SIB X cf W tg iter wi fi) (ok : BlkOk X.N X.env.scope scope own)
    (hg : ∀ (s : Shared) (H : Hp) (C : Addr) (cl : List (Str × Addr)) (fp : List Addr), SGt (X.blk s H scope (compEnvC scope cl C X.env) fp) cf (own.map (·.2)) tg g ftg) (ht : ∀ (s : Shared) (H : Hp) (C : Addr) (cl : List (Str × Addr)) (fp : List Addr), STs (X.blk s H scope (compEnvC scope cl C X.env) fp) cf W0 ifs tt ft)
    (he : ∀ (s : Shared) (H : Hp) (C : Addr) (cl : List (Str × Addr)) (fp : List Addr), SE (X.blk s H scope (compEnvC scope cl C X.env) fp) cf W0 c n1 elt te fe) (hs : ∀ x, foldedSetIterable iter X.env x = pure x := by intro _; rfl) :
    SE X cf W c true (.ListComp elt [⟨tg, iter, ifs, 0⟩] scope pos) (tLc wi g tt te (own.map (·.2))) (eLc (own.map (·.2)) fi ftg ft fe) :=
  ⟨pe_lc hc hN hi.p ok (fun s H C cl fp => (hg s H C cl fp).p) (fun s H C cl fp => (ht s H C cl fp).p) (fun s H C cl fp => (he s H C cl fp).p) hs,
   sd_lc hsh hk hi.s (hg X.s_0 X.H_0 0 [] []).s (ht X.s_0 X.H_0 0 [] []).s (he X.s_0 X.H_0 0 [] []).s⟩
theorem sg_lc {i : Nat} {y : Str} {py : Pos} {elt tg iter : Expr} {ifs : List Expr} {scope : Scope} {own : List (Str × Nat)} {pos spos : Pos} {wi : TI} {g : TG} {tt : TT} {te : TE} {fi : M (List D)} {ftg : D → M Unit} {ft : M Bool} {fe : M D} (hsh : c.sh = true) (hk : ∀ i ∈ own.map (·.2), cf.kd i = .S) (hc : X.calm = true) (hN : X.N.Nodup) (hy : X.N[i]? = some y) (hyl : X.env.scope.names.lookup y = some .local)
    (hsw : swapsWith (.ListComp elt [⟨tg, iter, ifs, 0⟩] scope pos) (some (.Name y py)) spos.line X.env = pure true) (hi : SIB X cf W tg iter wi fi) (ok : BlkOk X.N X.env.scope scope own)
    (hg : ∀ (s : Shared) (H : Hp) (C : Addr) (cl : List (Str × Addr)) (fp : List Addr), SGt (X.blk s H scope (compEnvC scope cl C X.env) fp) cf (own.map (·.2)) tg g ftg) (ht : ∀ (s : Shared) (H : Hp) (C : Addr) (cl : List (Str × Addr)) (fp : List Addr), STs (X.blk s H scope (compEnvC scope cl C X.env) fp) cf W0 ifs tt ft)
    (he : ∀ (s : Shared) (H : Hp) (C : Addr) (cl : List (Str × Addr)) (fp : List Addr), SE (X.blk s H scope (compEnvC scope cl C X.env) fp) cf W0 c n1 elt te fe) (hs : ∀ x, foldedSetIterable iter X.env x = pure x := by intro _; rfl) :
    SG X cf W c true i (.Assign [.Name y py] (.ListComp elt [⟨tg, iter, ifs, 0⟩] scope pos) spos) (eLc (own.map (·.2)) fi ftg ft fe) :=
  ⟨_, ps_setLc hc hN hy hyl hsw hi.p ok (fun s H C cl fp => (hg s H C cl fp).p) (fun s H C cl fp => (ht s H C cl fp).p) (fun s H C cl fp => (he s H C cl fp).p) hs,
   sd_lc hsh hk hi.s (hg X.s_0 X.H_0 0 [] []).s (ht X.s_0 X.H_0 0 [] []).s (he X.s_0 X.H_0 0 [] []).s⟩
theorem SG.flat {i : Nat} {st : Stmt} {f : M D} (h : SG X cf W c true i st f) : SG X cf W .V true i st (eF f) := by
  obtain ⟨t, p, s⟩ := h
  refine ⟨t, p, fun R Hs env σ H F wf r Q => ?_⟩
  have h := s R Hs env σ H F wf r Q
  cases q : f env with
  | ok d env' =>
    rw [q] at h
    cases hf : d.flat with
    | true =>
      have e1 : eF f env = .ok d env' := by simp [eF, bnd, lift, q, hf]
      rw [e1]
      exact fun k => h fun v Hs' H' st r' p nr => k v Hs' H' st r' (nr rfl hf) nr
    | false =>
      have e1 : eF f env = .stuck := by simp [eF, bnd, lift, q, hf]
      rw [e1]
      trivial
  | ex x env' =>
    rw [q] at h
    have e1 : eF f env = .ex x env' := by simp [eF, bnd, q]
    rw [e1]
    exact h
  | stuck =>
    have e1 : eF f env = .stuck := by simp [eF, bnd, q]
    rw [e1]
    trivial
def lstAt (i : Nat) (e : PEnv) : Option (List D) := match e[i]? with
  | some (some (.lst ds)) => some ds
  | _ => none
theorem lstAt_some {i : Nat} {e : PEnv} {ds : List D} (h : lstAt i e = some ds) : e[i]? = some (some (.lst ds)) := by
  unfold lstAt at h
  split at h
  · rename_i q; cases h; exact q
  · cases h
def sApp (i : Nat) (f : M D) : M Fl := fun e => match lstAt i e with
  | none => .stuck
  | some _ => bnd f (fun d => fun e => match lstAt i e with
    | some ds => if ds.length < LIM then .ok .nx (e.set i (some (.lst (ds ++ [d])))) else .stuck
    | none => .stuck) e
def sPut (i : Nat) (fv fi : M D) : M Fl := bnd fv fun d => fun e => match lstAt i e with
  | none => .stuck
  | some _ => bnd fi (fun k => fun e => match lstAt i e, k with
    | some ds, .int z => match ixN ds.length z with
      | some j => .ok .nx (e.set i (some (.lst (ds.set j d))))
      | none => .stuck
    | _, _ => .stuck) e
def sPutW (i : Nat) (fv fi : M D) : M Fl := bnd fv fun d => fun e => match lstAt i e with
  | none => .stuck
  | some _ => bnd fi (fun k => fun e => match lstAt i e, k with
    | some ds, .int z => match ixN ds.length z with
      | some j => if d.sc then .ok .nx (e.set i (some (.lst (ds.set j d)))) else .stuck
      | none => .stuck
    | _, _ => .stuck) e
theorem own_list {R : Rs} {Hs : Hp} {env : PEnv} {σ : L2.St} {H : Hp} {F : Nat → List Addr} {wf : List Addr} {i : Nat} {ds : List D} (r : Rel cf R Hs env σ H F wf) (hk : cf.kd i = .M) (h : env[i]? = some (some (.lst ds))) : ∃ p xs, σ[i]? = some (some (.ref p)) ∧ F i = [p] ∧ H p = some (.lst xs) ∧ RpL cf.K true (rs Hs R.H0) xs ds := by
  obtain ⟨v, h1, h2⟩ := r.slot i _ h
  rw [hk] at h2
  obtain ⟨h2, h3, h4⟩ := h2
  generalize hF : F i = L at h2 h3 h4
  cases h2 with
  | leaf _ => cases h3 rfl
  | lst h5 h6 =>
    rename_i F' _
    have e : F' = [] := by
      rw [List.length_cons] at h4
      exact List.length_eq_zero_iff.mp (by omega)
    subst e
    exact ⟨_, _, h1, rfl, h5, h6.leafs rfl⟩
theorem OwnL.off {K : PySem.W.Frag} {Hn H : Hp} {p : Addr} {o : HO} {F : List Addr} {xs : List V} {ds : List D} (h : OwnL K Hn H F xs ds) (hp : p ∉ F) : OwnL K Hn (upd H p o) F xs ds := h.keep (Ex.refl _) fun a m u e => by
  rw [upd_ne (fun z => hp (by rw [← z]; exact m))]; exact e
theorem OwnL.length {K : PySem.W.Frag} {Hn H : Hp} : ∀ {F : List Addr} {xs : List V} {ds : List D}, OwnL K Hn H F xs ds → xs.length = ds.length
  | _, _, _, .nil => rfl
  | _, _, _, .cons _ r => by rw [List.length_cons, List.length_cons, OwnL.length r]
theorem ss_app {i : Nat} {o e : Expr} {te : TE} {f : M D} {apos cpos pos : Pos} (hK : cf.K = X.K) (po : PE X o (tVar i)) (hk : cf.kd i = .M) (h : SE X cf W .N n e te f)
    (hbase : attributeBase o "append" X.env (eval o X.env) = eval o X.env := by rfl)
    (hfew : ((backTo cpos (starEach [e] X.env)).all (fun x => !x.1) && (backToKw cpos (keywordEach [] X.env)).all (fun x => x.1.isSome) && decide ([e].length + ([] : List Keyword).length + (if ([] : List Keyword).isEmpty then 0 else 1) < 30)) = true := by rfl)
    (hline : (apos.endLine == cpos.line) = true := by rfl) (hs : starEach [e] X.env = (false, eval e X.env) :: starEach [] X.env := by rfl) (hplain : (backTo cpos (starEach [] X.env)).any (·.1) = false := by rfl)
    (hsw : swapsWith (.Call (.Attribute o "append" apos) [e] [] cpos) none pos.line X.env = pure false := by rfl) :
    SS X cf W (.Expr (.Call (.Attribute o "append" apos) [e] [] cpos) pos) (sApp i f) := by
  refine ⟨_, ps_expr (pe_bm PySem.F.plainAttrs_list PySem.F.slot_list_append PySem.F.type_list_append mt_append po (pa_cons h.p pa_nil hs) hbase hfew hline hs hplain) hsw, fun R Hs env σ H F wf r D hp => ?_⟩
  unfold sApp at hp
  cases q0 : lstAt i env with
  | none => simp only [q0] at hp; exact hp.elim
  | some ds0 =>
    simp only [q0] at hp
    obtain ⟨p0, xs0, a1, a2, a3, a4⟩ := own_list r hk (lstAt_some q0)
    refine ⟨.ref p0, a1, .inl ⟨rfl, xs0, .inl (.inl a3)⟩, ?_⟩
    refine h.s.bind r hp fun d env1 v Hs1 H1 s1 r1 p1 _ hp => ?_
    cases q : lstAt i env1 with
    | none => simp only [q] at hp; exact hp.elim
    | some ds =>
      simp only [q] at hp
      split at hp
      · rename_i hl
        obtain ⟨p, xs, h1, h2, h3, h4⟩ := own_list r1 hk (lstAt_some q)
        have ep : p = p0 := by rw [h1] at a1; cases a1; rfl
        subst ep
        refine ⟨p, xs, v, rfl, rfl, h3, by rw [h4.length]; exact lim_lt hl, ?_⟩
        exact hp Hs1 σ _ F wf s1.ex (r1.mut (i := i) (p := p) (v := .ref p) (d0 := .lst ds) (by rw [h2]; exact List.mem_cons_self) (lstAt_some q) h1 (by
            rw [hk, h2]
            exact ⟨Own.lst upd_same (ownL_of (h4.append (.cons p1 .nil))), fun z => (by cases z), Nat.le_refl _⟩))
      · exact hp.elim
theorem ss_putM {i : Nat} {o ix e : Expr} {te ti : TE} {f fi : M D} {spos pos : Pos} (po : PE X o (tVar i)) (hk : cf.kd i = .M) (h : SE X cf W .N n e te f) (hi : SE X cf W c n1 ix ti fi)
    (ha : ∀ v, assign (.Subscript o ix spos) X.env v = (do
      let ov ← holding [v] (eval o X.env)
      let iv ← holding [v, ov] (eval ix X.env)
      standAt spos
      holding [v, ov, iv] (setItem ov iv v)
      release [v, ov, iv] []) := by intro _; rfl)
    (hs : swapsWithSole [.Subscript o ix spos] e pos.line X.env = pure false := by rfl) (hw : swappedStores [.Subscript o ix spos] e X.env = pure none := by rfl)
    (h1 : (assignEach [.Subscript o ix spos] X.env).map (·.2) = [assign (.Subscript o ix spos) X.env] := by rfl) :
    SS X cf W (.Assign [.Subscript o ix spos] e pos) (sPut i f fi) := by
  refine ⟨_, ps_asg h.p (pg_sub po hi.p set_list ha) hs hw h1, fun R Hs env σ H F wf r D hp => ?_⟩
  refine h.s.bind r hp fun d env1 v Hs1 H1 s1 r1 p1 _ hp => ?_
  cases q0 : lstAt i env1 with
  | none => simp only [q0] at hp; exact hp.elim
  | some ds0 =>
    simp only [q0] at hp
    obtain ⟨p0, xs0, a1, a2, a3, a4⟩ := own_list r1 hk (lstAt_some q0)
    refine ⟨.ref p0, a1, ?_⟩
    refine hi.s.bind r1 (Post.mono s1.ex hp) fun k env2 vk Hs2 H2 s2 r2 p2 _ hp => ?_
    cases q : lstAt i env2 with
    | none => simp only [q] at hp; exact hp.elim
    | some ds =>
      simp only [q] at hp
      cases k with
      | int z =>
        simp only at hp
        cases qj : ixN ds.length z with
        | none => simp only [qj] at hp; exact hp.elim
        | some j =>
          simp only [qj] at hp
          obtain ⟨p, xs, h1, h2, h3, h4⟩ := own_list r2 hk (lstAt_some q)
          have ep : p = p0 := by rw [h1] at a1; cases a1; rfl
          subst ep
          refine ⟨p, xs, z, j, rfl, p2.int_inv, h3, by rw [h4.length]; exact qj, ?_⟩
          exact hp Hs2 σ _ F wf s2.ex (r2.mut (i := i) (p := p) (v := .ref p) (d0 := .lst ds) (by rw [h2]; exact List.mem_cons_self) (lstAt_some q) h1 (by
              rw [hk, h2]
              exact ⟨Own.lst upd_same (ownL_of (h4.set j (p1.mono (rs_mono s2.ex)))), fun z => (by cases z), Nat.le_refl _⟩))
      | _ => exact hp.elim
def eIxW (i : Nat) (f : M D) : M D := fun e => match lstAt i e with
  | none => .stuck
  | some _ => bnd f (fun k => fun e => match lstAt i e, k with
    | some ds, .int z => lift (atI ds z) e
    | _, _ => .stuck) e
end
end MV
namespace MV
open PySem PySem.Spec PyProof.Rows L2
def spP (K : PySem.W.Frag) (cv : Str → Value) (m : Nat) (F : List D → FR) : Sp := fun vs H Q E => vs.length = m ∧ ∃ ds, RpL K true H vs ds ∧ match F ds with
  | .ok d _ => ∀ v H', Ex H H' → Rp K true (nw H H') v d → Q v H'
  | .ex x _ => ∀ H', Ex H H' → E (cv x) none H'
  | .stuck => False
def spQ (K : PySem.W.Frag) (cv : Str → Value) (m : Nat) (F : List D → FR) : Sp := fun vs H Q E => vs.length = m ∧ ∃ v0 vs' d0 ds, vs = v0 :: vs' ∧ Rp K false H v0 d0 ∧ RpL K true H vs' ds ∧ match F (d0 :: ds) with
  | .ok d _ => ∀ v H', Ex H H' → Rp K true (nw H H') v d → Q v H'
  | .ex x _ => ∀ H', Ex H H' → E (cv x) none H'
  | .stuck => False
def frD (r : FR) : M D := fun e => match r with
  | .ok d _ => .ok d e
  | .ex x _ => .ex x e
  | .stuck => .stuck
def eCall (F : List D → FR) (a : M (List D)) : M D := bnd a fun ds => frD (F ds)
def frW (i : Nat) (r : FR) : M D := fun e => match r with
  | .ok d io => if wok io then .ok d (e.set i (some io)) else .stuck
  | .ex x io => if wok io then .ex x (e.set i (some io)) else .stuck
  | .stuck => .stuck
def eCallW (F : List D → FR) (i : Nat) (a : M (List D)) : M D := fun e => match lstAt i e with
  | none => .stuck
  | some _ => bnd a (fun ds => fun e => match lstAt i e with
    | some ds0 => frW i (F (.lst ds0 :: ds)) e
    | none => .stuck) e
section
variable {X : Cx} {cf : Cf} {W : WX} {c : Cls} {n n1 n2 : Bool}
theorem nw_rs {Hs H H1 H' : Hp} (d : ∀ a, H a ≠ none → H1 a ≠ none) : Ex (nw H1 H') (rs (grow Hs H1 H') H) := fun a o h => by
  cases q : H1 a with
  | some u => rw [nw_some q] at h; cases h
  | none =>
    rw [nw_none q] at h
    have : H a = none := by
      cases z : H a with
      | none => rfl
      | some u => exact absurd q (d a (by rw [z]; exact fun y => by cases y))
    rw [rs_none this, grow_none q]; exact h
theorem sd_call {F : List D → FR} {m : Nat} {ta : TA} {fa : M (List D)} (h : SdA cf W .B ta fa) (hm : ∀ ds env env', fa env = .ok ds env' → ds.length = m) : Sd cf W .V true (tCallS (spP cf.K cf.cv m F) (WE W) ta) (eCall F fa) := by
  refine Sd.mk (fun R Hs env σ H F0 wf r d env' q Q k => ?_) (fun R Hs env σ H F0 wf r x env' q Q k => ?_)
  · obtain ⟨ds, env1, q1, q2⟩ := bnd_ok q
    refine h.ok r q1 fun vs Hs1 H1 s1 r1 p1 => ?_
    refine ⟨by rw [p1.length]; exact hm _ _ _ q1, ds, p1.mono (rm_sub _ _), ?_⟩
    cases qf : F ds with
    | ok d' io =>
      rw [qf] at q2
      cases q2
      intro v H' x pv
      have pv' : Rp cf.K true (rs (grow Hs1 H1 H') H) v d := pv.mono (nw_rs s1.dom)
      exact k v (grow Hs1 H1 H') H' (s1.trans (Stp.grow r1.exs x)) (r1.grow x) pv' fun _ _ => pv'
    | ex x io => rw [qf] at q2; cases q2
    | stuck => rw [qf] at q2; cases q2
  · rcases bnd_ex q with q | ⟨ds, env1, q1, q2⟩
    · exact h.exn r q k
    · refine h.ok r q1 fun vs Hs1 H1 s1 r1 p1 => ?_
      refine ⟨by rw [p1.length]; exact hm _ _ _ q1, ds, p1.mono (rm_sub _ _), ?_⟩
      cases qf : F ds with
      | ok d' io => rw [qf] at q2; cases q2
      | ex x' io =>
        rw [qf] at q2
        cases q2
        intro H' x
        exact k (grow Hs1 H1 H') H' (s1.trans (Stp.grow r1.exs x)) (r1.grow x)
      | stuck => rw [qf] at q2; cases q2
theorem aLen_nil {ds : List D} {env env' : PEnv} (q : aNil env = .ok ds env') : ds.length = 0 := by cases q; rfl
theorem aLen_cons {fa : M D} {fr : M (List D)} {m : Nat} (h : ∀ ds env env', fr env = .ok ds env' → ds.length = m) {ds : List D} {env env' : PEnv} (q : aCons fa fr env = .ok ds env') : ds.length = m + 1 := by
  obtain ⟨d1, env1, q1, q⟩ := bnd_ok q
  obtain ⟨d2, env2, q2, q⟩ := bnd_ok q
  cases q
  rw [List.length_cons, h _ _ _ q2]
theorem se_call {F : List D → FR} {m k : Nat} {f : Addr} {fd : FuncData} {ps : List Str} {x : Str} {e : Expr} {es : List Expr} {ta : TA} {fa : M (List D)} {p pos : Pos} (hK : cf.K = X.K) (tk : L2N.Takes X W) (G : FnOk X.prog X.w X.K X.mg X.base (L2N.CX X.prog X.w) k f fd ps (spP X.K cf.cv m F)) (hr : Room k X.A) (hg : Gl X x) (hm : X.mg x = some (.ref f)) (hkp : PySem.W.keepIn X.K (.ref f) = true) (hb : Binds X.K fd ps []) (ha : SA X cf W .B (e :: es) ta fa) (hl : ∀ ds env env', fa env = .ok ds env' → ds.length = m)
    (hdb : (x == ("__debug__" : Str)) = false := by decide) (he : starEach (e :: es) X.env = (false, eval e X.env) :: starEach es X.env := by rfl) (hpl : (backTo pos (starEach es X.env)).any (·.1) = false := by rfl) :
    SE X cf W .V true (.Call (.Name x p) (e :: es) [] pos) (tCallS (spP cf.K cf.cv m F) (WE W) ta) (eCall F fa) := by
  refine ⟨?_, sd_call ha.s hl⟩
  rw [hK]
  exact pe_callS G hr hg hm hkp hb (fun σ => L2N.passAt tk σ) ha.p hdb he hpl
end
section
variable {P : Program} {w : World} {K : PySem.W.Frag} {mg : Str → Option Value} {base : Heap}
theorem start_get {N : List Str} {vs : List V} {i : Nat} {v : V} (h : vs[i]? = some v) : (L2.start N vs)[i]? = some (some v) := by
  unfold L2.start
  have hl : i < vs.length := (List.getElem?_eq_some_iff.mp h).1
  rw [List.getElem?_append_left (by rw [List.length_map]; exact hl), List.getElem?_map, h]
  rfl
theorem envOf_get {n : Nat} {ds : List D} {i : Nat} {d : D} (h : (envOf n ds)[i]? = some (some d)) : ds[i]? = some d := by
  unfold envOf at h
  by_cases hl : i < ds.length
  · rw [List.getElem?_append_left (by rw [List.length_map]; exact hl), List.getElem?_map] at h
    cases q : ds[i]? with
    | none => rw [q] at h; cases h
    | some d' => rw [q] at h; cases h; rfl
  · rw [List.getElem?_append_right (by rw [List.length_map]; omega), List.getElem?_replicate] at h
    split at h <;> cases h
theorem env_len {N : List Str} {ds : List D} {vs : List V} (h : vs.length = ds.length) : (envOf N.length ds).length = (L2.start N vs).length := by
  unfold envOf L2.start
  rw [List.length_append, List.length_append, List.length_map, List.length_map, List.length_replicate, List.length_replicate, h]
theorem okN {x qual : Str} {st : Stmt} {f : Addr} {fd : FuncData} {N ps : List Str} {k : Nat} {sp : Sp} (F : Fun K x qual st f fd) (S : FnScope N ps (defScope st)) (len : ∀ vs H Q E, sp vs H Q E → vs.length = ps.length)
    (hb : ∀ (cdv : Value) (A : Around) (outer : List Env) (s : Shared) (H : Hp) (vs : List V) (Q : VK) (E : XK), Room k (A.deeper (envOfC qual (defScope st) s.heap.objs.size f cdv)) → sp vs H Q E →
      ∃ t, PSs (cxOf (L2N.CX P w) P w K mg base N qual (defScope st) f cdv A outer s H E) (defBody st) t ∧ t { nx := fun _ H' => Q .non H', rt := Q } (L2.start N vs) H) : FnOk P w K mg base (L2N.CX P w) (k + 1) f fd ps sp := by
  obtain ⟨oc, od, kV, doc, pm, an, cdv, ct, osl, e, lk, hcd⟩ := F.ex
  subst e
  exact fn_of lk hcd S len fun A outer s H vs Q E hr h => hb cdv A outer s H vs Q E hr h
theorem takes0N {X : Cx} : L2N.Takes X (fun _ _ _ _ => False) := fun u s' x => by
  obtain ⟨a, B, sI, pins, σ, H, cls, d, _, _, _, _, _, _, _, _, z⟩ := x
  exact z.elim
theorem fn_P {x qual : Str} {st : Stmt} {f : Addr} {fd : FuncData} (N ps : List Str) (mN mP : Nat) {k : Nat} (cf : Cf) (g : M Fl) (hN : N.length = mN) (hP : ps.length = mP) (F : Fun K x qual st f fd) (S : FnScope N ps (defScope st)) (hK : cf.K = K) (hk : ∀ i, i < ps.length → cf.kd i = .S)
    (hbody : ∀ (cdv : Value) (A : Around) (outer : List Env) (s : Shared) (H : Hp) (E : XK), Room k (A.deeper (envOfC qual (defScope st) s.heap.objs.size f cdv)) → L2N.Takes (cxOf (L2N.CX P w) P w K mg base N qual (defScope st) f cdv A outer s H E) (fun cls d _ H => E cls d H) →
      PassesOwn (model P w) (A.deeper (envOfC qual (defScope st) s.heap.objs.size f cdv)) (envOfC qual (defScope st) s.heap.objs.size f cdv) (cxOf (L2N.CX P w) P w K mg base N qual (defScope st) f cdv A outer s H E).xe →
      SSs (cxOf (L2N.CX P w) P w K mg base N qual (defScope st) f cdv A outer s H E) cf (fun cls d _ H => E cls d H) (defBody st) g) :
    FnOk P w K mg base (L2N.CX P w) (k + 1) f fd ps (spP K cf.cv mP (runF mN g)) := by
  subst hN hP
  refine okN F S (fun vs H Q E h => h.1) (fun cdv A outer s H vs Q E hr h => ?_)
  obtain ⟨hl, ds, hd, h⟩ := h
  obtain ⟨t, p, sd⟩ := hbody cdv A outer s H E hr (L2N.takes_of rfl rfl rfl rfl) (passes_of rfl)
  refine ⟨t, p, ?_⟩
  have r : Rel cf ⟨H, none⟩ H (envOf N.length ds) (L2.start N vs) H (fun _ => []) [] :=
    { len := env_len hd.length
      exs := Ex.refl _
      ex0 := fun a o h _ => h
      dom0 := fun a h => h
      slot := fun i d q => by
        have q := envOf_get q
        obtain ⟨v, h1, h2⟩ := hd.get q
        refine ⟨v, start_get h1, ?_⟩
        rw [hk i (by rw [← hl, hd.length]; exact (List.getElem?_eq_some_iff.mp q).1), hK]
        exact h2
      nod := fun _ => List.nodup_nil
      dis := fun _ _ _ _ m => by cases m
      fdom := fun _ _ m => by cases m
      uns := fun _ _ m => by cases m
      new := fun _ _ m => by cases m
      volw := fun _ _ _ m => by cases m
      volb := fun _ _ _ m => by cases m
      wdom := fun _ m => by cases m
      ior := fun p h => by cases h }
  refine sd _ _ _ _ _ _ _ r _ ?_
  unfold runF at h
  have exH : ∀ {Hs' H' : Hp} {env' : PEnv} {σ' : L2.St} {F' : Nat → List Addr} {wf' : List Addr}, Rel cf ⟨H, none⟩ Hs' env' σ' H' F' wf' → Ex H H' := fun r' a o ha => r'.exs a o (r'.ex0 a o ha (fun z => by cases z))
  cases q : g (envOf N.length ds) with
  | stuck => rw [q] at h; exact h.elim
  | ex c e =>
    rw [q] at h
    exact fun Hs' σ' H' F' wf' _ r' => h H' (exH r')
  | ok fl e =>
    rw [q] at h
    cases fl with
    | nx => exact fun Hs' σ' H' F' wf' _ r' => h .non H' (exH r') .non
    | rt d => exact fun v Hs' σ' H' F' wf' _ r' pv => h v H' (exH r') (by
        rw [← hK]
        exact pv.mono fun a o ha => by
          have ha : rs (rm H' wf') H a = some o := ha
          cases z : H a with
          | none => rw [rs_none z] at ha; rw [nw_none z]; exact rm_sub _ _ a o ha
          | some u => rw [rs_some z] at ha; cases ha)
    | bk => exact h.elim
    | ct => exact h.elim
theorem ioOf_get {e : PEnv} {d : D} (h : e[0]? = some (some d)) : ioOf e = d := by
  cases e with
  | nil => cases h
  | cons a r =>
    have : a = some d := by simpa using h
    subst this
    rfl
end
end MV
namespace MV
open PySem PySem.Spec PyProof.Rows L2
section
variable {X : Cx} {cf : Cf} {W : WX} {c ca cb : Cls} {n n1 n2 : Bool} {a b : Expr} {ta tb : TE} {fa fb : M D} {pos : Pos}
theorem se_add (ha : SE X cf W c n1 a ta fa) (hb : SE X cf W c n2 b tb fb) : SE X cf W c true (.BinOp a .Add b pos) (tOp rAdd3 ta tb) (e2 gAdd fa fb) := se_bin op_add3 snd_add ha hb
theorem se_mul (ha : SE X cf W c n1 a ta fa) (hb : SE X cf W c n2 b tb fb) : SE X cf W c true (.BinOp a .Mult b pos) (tOp rMul2 ta tb) (e2 gMul fa fb) := se_bin op_mul2 snd_mul ha hb
theorem sc_sub : ScF (e2 gSub fa fb) := gI2_sc fun i j d h => by cases h; rfl
theorem sc_fdiv : ScF (e2 gFdiv fa fb) := gI2_sc fun i j d h => by split at h <;> cases h; rfl
theorem sc_mod : ScF (e2 gMod fa fb) := gI2_sc fun i j d h => by split at h <;> cases h; rfl
theorem sc_pow : ScF (e2 gPow fa fb) := gI2_sc fun i j d h => by split at h <;> cases h; rfl
theorem sc_shr : ScF (e2 gShr fa fb) := gI2_sc fun i j d h => by split at h <;> cases h; rfl
theorem sc_ge : ScF (e2 gGe fa fb) := gI2_sc fun i j d h => by cases h; rfl
theorem sc_map {o : Option Bool} {g : Bool → Bool} {d : D} (h : (o.map fun k => D.bl (g k)) = some d) : d.sc = true := by
  cases o with
  | none => cases h
  | some b => cases h; rfl
theorem sc_eq : ScF (e2 gEq fa fb) := e2_sc fun x y d h => sc_map (g := id) h
theorem sc_ne : ScF (e2 gNe fa fb) := e2_sc fun x y d h => sc_map h
theorem se_sub (ha : SE X cf W ca n1 a ta fa) (hb : SE X cf W cb n2 b tb fb) : SE X cf W .V true (.BinOp a .Sub b pos) (tOp (rI0 fun i j => .int (i - j)) ta tb) (e2 gSub fa fb) := (se_bin op_sub snd_sub ha.b hb.b).low sc_sub
theorem se_fdiv (ha : SE X cf W ca n1 a ta fa) (hb : SE X cf W cb n2 b tb fb) : SE X cf W .V true (.BinOp a .FloorDiv b pos) (tOp rFdiv ta tb) (e2 gFdiv fa fb) := (se_bin (op_fdiv.or op_fdivW) snd_fdiv ha.b hb.b).low sc_fdiv
theorem se_mod (ha : SE X cf W ca n1 a ta fa) (hb : SE X cf W cb n2 b tb fb) : SE X cf W .V true (.BinOp a .Mod b pos) (tOp (rI (fun _ j => 0 < j) fun i j => .int (i % j)) ta tb) (e2 gMod fa fb) := (se_bin op_mod snd_mod ha.b hb.b).low sc_mod
theorem se_pow (ha : SE X cf W ca n1 a ta fa) (hb : SE X cf W cb n2 b tb fb) : SE X cf W .V true (.BinOp a .Pow b pos) (tOp (rI CPow fun i j => .int (i ^ j.toNat)) ta tb) (e2 gPow fa fb) := (se_bin op_pow snd_pow ha.b hb.b).low sc_pow
theorem se_shr (ha : SE X cf W ca n1 a ta fa) (hb : SE X cf W cb n2 b tb fb) : SE X cf W .V true (.BinOp a .RShift b pos) (tOp (rI (fun _ j => 0 ≤ j) fun i j => .int (i / 2 ^ j.toNat)) ta tb) (e2 gShr fa fb) := (se_bin op_shr snd_shr ha.b hb.b).low sc_shr
theorem se_neg (ha : SE X cf W ca n1 a ta fa) : SE X cf W .V true (.UnaryOp .USub a pos) (tUn (rU fun i => .int (-i)) ta) (e1 gNeg fa) := (se_una un_neg snd_neg ha.b).low (e1_sc fun x d h => by
  unfold gNeg at h
  split at h <;> cases h; rfl)
theorem se_ge (ha : SE X cf W ca n1 a ta fa) (hb : SE X cf W cb n2 b tb fb) : SE X cf W .V true (.Compare a [.GtE] [b] pos) (tOp (rI0 fun i j => .bl (decide (j ≤ i))) ta tb) (e2 gGe fa fb) := (se_cmp op_ge snd_ge ha.b hb.b (nomark _)).low sc_ge
theorem se_eq (hK : cf.K = X.K) (hu : X.A.units + 64 < cLine) (ha : SE X cf W ca n1 a ta fa) (hb : SE X cf W cb n2 b tb fb) : SE X cf W .V true (.Compare a [.Eq] [b] pos) (tOp (rEq2 cf.K) ta tb) (e2 gEq fa fb) := by
  rw [hK]
  exact (se_cmp (op_eq2 hu) (by rw [hK]; exact snd_eq) ha.b hb.b (nomark _)).low sc_eq
theorem se_ne (hK : cf.K = X.K) (hu : X.A.units + 64 < cLine) (ha : SE X cf W ca n1 a ta fa) (hb : SE X cf W cb n2 b tb fb) : SE X cf W .V true (.Compare a [.NotEq] [b] pos) (tOp (rNe2 cf.K) ta tb) (e2 gNe fa fb) := by
  rw [hK]
  exact (se_cmp (op_ne2 hu) (by rw [hK]; exact snd_ne) ha.b hb.b (nomark _)).low sc_ne
theorem st_lt (ha : SE X cf W ca n1 a ta fa) (hb : SE X cf W cb n2 b tb fb) : ST X cf W (.Compare a [.Lt] [b] pos) (tTest (tOp (rI0 fun i j => .bl (decide (i < j))) ta tb)) (tB (e2 gLt fa fb)) := st_cmp op_lt snd_lt ha.b hb.b (nomark _)
theorem st_le (ha : SE X cf W ca n1 a ta fa) (hb : SE X cf W cb n2 b tb fb) : ST X cf W (.Compare a [.LtE] [b] pos) (tTest (tOp (rI0 fun i j => .bl (decide (i ≤ j))) ta tb)) (tB (e2 gLe fa fb)) := st_cmp op_le snd_le ha.b hb.b (nomark _)
theorem st_gt (ha : SE X cf W ca n1 a ta fa) (hb : SE X cf W cb n2 b tb fb) : ST X cf W (.Compare a [.Gt] [b] pos) (tTest (tOp (rI0 fun i j => .bl (decide (j < i))) ta tb)) (tB (e2 gGt fa fb)) := st_cmp op_gt snd_gt ha.b hb.b (nomark _)
theorem st_ge (ha : SE X cf W ca n1 a ta fa) (hb : SE X cf W cb n2 b tb fb) : ST X cf W (.Compare a [.GtE] [b] pos) (tTest (tOp (rI0 fun i j => .bl (decide (j ≤ i))) ta tb)) (tB (e2 gGe fa fb)) := st_cmp op_ge snd_ge ha.b hb.b (nomark _)
theorem st_eq (hK : cf.K = X.K) (hu : X.A.units + 64 < cLine) (ha : SE X cf W ca n1 a ta fa) (hb : SE X cf W cb n2 b tb fb) : ST X cf W (.Compare a [.Eq] [b] pos) (tTest (tOp (rEq2 cf.K) ta tb)) (tB (e2 gEq fa fb)) := by
  rw [hK]
  exact st_cmp (op_eq2 hu) (by rw [hK]; exact snd_eq) ha.b hb.b (nomark _)
theorem st_ne (hK : cf.K = X.K) (hu : X.A.units + 64 < cLine) (ha : SE X cf W ca n1 a ta fa) (hb : SE X cf W cb n2 b tb fb) : ST X cf W (.Compare a [.NotEq] [b] pos) (tTest (tOp (rNe2 cf.K) ta tb)) (tB (e2 gNe fa fb)) := by
  rw [hK]
  exact st_cmp (op_ne2 hu) (by rw [hK]; exact snd_ne) ha.b hb.b (nomark _)
theorem st_isN (ha : SE X cf W ca n1 a ta fa) (hb : SE X cf W cb n2 b tb fb) : ST X cf W (.Compare a [.Is] [b] pos) (tTest (tOp (fun x y H Q => y = .non ∧ Q (.bl (decide (x = .non))) H) ta tb)) (tB (e2 gIsN fa fb)) := st_cmp op_isN snd_isN ha.b hb.b (nomark _)
theorem st_notN (ha : SE X cf W ca n1 a ta fa) (hb : SE X cf W cb n2 b tb fb) : ST X cf W (.Compare a [.IsNot] [b] pos) (tTest (tOp (fun x y H Q => y = .non ∧ Q (.bl (!decide (x = .non))) H) ta tb)) (tB (e2 gNotN fa fb)) := st_cmp op_notN snd_notN ha.b hb.b (nomark _)
theorem st_in (hK : cf.K = X.K) (ha : SE X cf W ca n1 a ta fa) (hb : SE X cf W cb n2 b tb fb) (hm : behindInMarks .In b = false := by rfl) : ST X cf W (.Compare a [.In] [b] pos) (tTest (tOp (rIn2 cf.K) ta tb)) (tB (e2 gIn fa fb)) := by
  rw [hK]
  exact st_cmp op_in2 (by rw [hK]; exact snd_in) ha.b hb.b hm
theorem st_notIn (hK : cf.K = X.K) (ha : SE X cf W ca n1 a ta fa) (hb : SE X cf W cb n2 b tb fb) (hm : behindInMarks .NotIn b = false := by rfl) : ST X cf W (.Compare a [.NotIn] [b] pos) (tTest (tOp (rNotIn2 cf.K) ta tb)) (tB (e2 gNotIn fa fb)) := by
  rw [hK]
  exact st_cmp op_notIn2 (by rw [hK]; exact snd_notIn) ha.b hb.b hm
variable {p : Pos} {tA : TA} {fA : M (List D)} {e : Expr} {es : List Expr}
theorem SA.one (h : SE X cf W ca n1 a ta fa) (hs : starEach [a] X.env = (false, eval a X.env) :: starEach [] X.env := by rfl) : SA X cf W .B [a] (tCons ta tNil) (aCons fa aNil) := sa_cons h.b sa_nil hs
theorem scN {g : List D → Option D} (hg : ∀ x d, g x = some d → d.sc = true) : ScF (eN g fA) := eN_sc hg
theorem sc_len (x : List D) (d : D) (h : gLen x = some d) : d.sc = true := by
  unfold gLen at h
  split at h
  · cases h; rfl
  · cases h; rfl
  · split at h <;> cases h; rfl
  · cases h
theorem sc_max2 (x : List D) (d : D) (h : gMax2 x = some d) : d.sc = true := by unfold gMax2 at h; split at h <;> cases h; rfl
theorem sc_min2 (x : List D) (d : D) (h : gMin2 x = some d) : d.sc = true := by unfold gMin2 at h; split at h <;> cases h; rfl
theorem sc_int1 (x : List D) (d : D) (h : gInt1 x = some d) : d.sc = true := by unfold gInt1 at h; split at h <;> cases h <;> rfl
theorem sc_sum (x : List D) (d : D) (h : gSum x = some d) : d.sc = true := by
  unfold gSum at h
  split at h
  · rename_i ds
    cases z : asInts ds with
    | none => rw [z] at h; cases h
    | some ns => rw [z] at h; cases h; rfl
  · cases h
theorem sc_min1 (x : List D) (d : D) (h : gMin1 x = some d) : d.sc = true := by
  unfold gMin1 at h
  split at h
  · split at h
    · split at h <;> cases h; rfl
    · cases h
  · cases h
theorem se_len (hK : cf.K = X.K) (hm : X.mg "len" = none) (ha : SA X cf W ca (e :: es) tA fA) (hg : Gl X "len" := by rfl) (he : starEach (e :: es) X.env = (false, eval e X.env) :: starEach es X.env := by rfl) (hpl : (backTo pos (starEach es X.env)).any (·.1) = false := by rfl) :
    SE X cf W .V true (.Call (.Name "len" p) (e :: es) [] pos) (tCB (fun xs H Q => ∃ x n, xs = [x] ∧ LenV cf.K x H n ∧ Q (.int n) H) tA) (eN gLen fA) := by
  rw [hK]
  exact (se_cb call_len (n := true) (by rw [hK]; exact snd_len) hg hm PySem.boot_len ha (by decide) (by decide) he hpl).low (scN sc_len)
theorem se_max2 (hc : X.calm = true) (hm : X.mg "max" = none) (ha : SA X cf W ca (e :: es) tA fA) (hg : Gl X "max" := by rfl) (he : starEach (e :: es) X.env = (false, eval e X.env) :: starEach es X.env := by rfl) (hpl : (backTo pos (starEach es X.env)).any (·.1) = false := by rfl) :
    SE X cf W .V true (.Call (.Name "max" p) (e :: es) [] pos) (tCB (fun xs H Q => ∃ i j, xs = [.int i, .int j] ∧ Q (.int (if j > i then j else i)) H) tA) (eN gMax2 fA) := (se_cb (call_max2 hc) (n := true) snd_max2 hg hm (by decide +kernel) ha (by decide) (by decide) he hpl).low (scN sc_max2)
theorem se_min2 (hc : X.calm = true) (hm : X.mg "min" = none) (ha : SA X cf W ca (e :: es) tA fA) (hg : Gl X "min" := by rfl) (he : starEach (e :: es) X.env = (false, eval e X.env) :: starEach es X.env := by rfl) (hpl : (backTo pos (starEach es X.env)).any (·.1) = false := by rfl) :
    SE X cf W .V true (.Call (.Name "min" p) (e :: es) [] pos) (tCB (fun xs H Q => ∃ i j, xs = [.int i, .int j] ∧ Q (.int (if j < i then j else i)) H) tA) (eN gMin2 fA) := (se_cb (call_min2 hc) (n := true) snd_min2 hg hm (by decide +kernel) ha (by decide) (by decide) he hpl).low (scN sc_min2)
theorem se_min1 (hK : cf.K = X.K) (hc : X.calm = true) (hm : X.mg "min" = none) (ha : SA X cf W ca (e :: es) tA fA) (hg : Gl X "min" := by rfl) (he : starEach (e :: es) X.env = (false, eval e X.env) :: starEach es X.env := by rfl) (hpl : (backTo pos (starEach es X.env)).any (·.1) = false := by rfl) :
    SE X cf W .V true (.Call (.Name "min" p) (e :: es) [] pos) (tCB (rMin cf.K) tA) (eN gMin1 fA) := by
  rw [hK]
  exact (se_cb (cr_min hc) (n := true) (by rw [hK]; exact snd_min1) hg hm (by decide +kernel) ha (by decide) (by decide) he hpl).low (scN sc_min1)
theorem se_sum (hK : cf.K = X.K) (hc : X.calm = true) (hm : X.mg "sum" = none) (ha : SA X cf W ca (e :: es) tA fA) (hg : Gl X "sum" := by rfl) (he : starEach (e :: es) X.env = (false, eval e X.env) :: starEach es X.env := by rfl) (hpl : (backTo pos (starEach es X.env)).any (·.1) = false := by rfl) :
    SE X cf W .V true (.Call (.Name "sum" p) (e :: es) [] pos) (tCB (rSum cf.K) tA) (eN gSum fA) := by
  rw [hK]
  exact (se_cb (cr_sum hc) (n := true) (by rw [hK]; exact snd_sum) hg hm (by decide +kernel) ha (by decide) (by decide) he hpl).low (scN sc_sum)
theorem se_int1 (hm : X.mg "int" = none) (ha : SA X cf W ca (e :: es) tA fA) (hg : Gl X "int" := by rfl) (he : starEach (e :: es) X.env = (false, eval e X.env) :: starEach es X.env := by rfl) (hpl : (backTo pos (starEach es X.env)).any (·.1) = false := by rfl) :
    SE X cf W .V true (.Call (.Name "int" p) (e :: es) [] pos) (tCB (fun xs H Q => (∃ i, xs = [.int i] ∧ Q (.int i) H) ∨ ∃ k, xs = [.bl k] ∧ Q (.int (if k then 1 else 0)) H) tA) (eN gInt1 fA) := (se_ct call_int1 (n := true) snd_int1 hg hm (by decide +kernel) ha (by decide) (by decide) he hpl).low (scN sc_int1)
theorem se_list1 (hK : cf.K = X.K) (hm : X.mg "list" = none) (ha : SA X cf W c (e :: es) tA fA) (hg : Gl X "list" := by rfl) (he : starEach (e :: es) X.env = (false, eval e X.env) :: starEach es X.env := by rfl) (hpl : (backTo pos (starEach es X.env)).any (·.1) = false := by rfl) (hcm : X.calm = true := by rfl) :
    SE X cf W c true (.Call (.Name "list" p) (e :: es) [] pos) (tCB (rList1 cf.K) tA) (eN gList1 fA) := by
  rw [hK]
  exact se_ct (call_list_of.or (call_listS hcm)) (n := true) (by rw [hK]; exact snd_list1) hg hm (by decide +kernel) ha (by decide) (by decide) he hpl
end
end MV
namespace MV
open PySem PySem.Spec PyProof.Rows L2
def D.ty : D → Option String
  | .non => some "NoneType"
  | .bl _ => some "bool"
  | .int _ => some "int"
  | .str _ => some "str"
  | .lst _ => some "list"
  | .tup _ => some "tuple"
  | .dic _ => some "dict"
  | .dit _ => none
  | .exc _ => none
def isiB (a T : String) : Bool := a == T || (a == "bool" && T == "int")
def tyNames : List String := ["NoneType", "bool", "int", "str", "list", "tuple", "dict"]
def clNames : List String := ["int", "bool", "list", "tuple", "str"]
theorem isiB_ok : ∀ a ∈ tyNames, ∀ T ∈ clNames, kitB a T = some (isiB a T) := by decide +kernel
def gIsi (T : String) (d : D) : Option D := match d.ty with
  | some a => some (.bl (isiB a T))
  | none => none
def eIsi (T : String) (f : M D) : M D := e1 (gIsi T) f
theorem rp_ty {K : PySem.W.Frag} {G H : Hp} {v : V} {d : D} {a : String} (e : Ex G H) (h : Rp K true G v d) (q : d.ty = some a) : a ∈ tyNames ∧ TyX K H v (.type a) := by
  cases h with
  | sc z =>
    cases d <;> cases z <;> cases q <;> refine ⟨by decide, .base ?_⟩ <;> constructor
  | lst s r => cases q; exact ⟨by decide, .base (.lst (e _ _ s))⟩
  | tup s r => cases q; exact ⟨by decide, .base (.tup (e _ _ s))⟩
  | dic s l r => cases q; exact ⟨by decide, .base (.dK (e _ _ s))⟩
  | dit s l r => cases q
  | exc _ => cases q
section
variable {X : Cx} {cf : Cf} {W : WX} {c ca cb : Cls} {n n1 n2 : Bool} {a b : Expr} {ta tb : TE} {fa fb : M D} {pos : Pos}
theorem se_isi {T : String} {x : Str} {p p2 : Pos} (hK : cf.K = X.K) (hT : T ∈ clNames) (hm : X.mg "isinstance" = none) (hmT : X.mg x = none) (hvT : bootBuiltins x = some (.type T)) (ha : SE X cf W ca n1 a ta fa) (hg : Gl X "isinstance" := by rfl) (hgT : Gl X x := by rfl) (hn : x ≠ "__name__" := by decide) (hd : (x == ("__debug__" : Str)) = false := by decide)
    (he : starEach [a, .Name x p2] X.env = (false, eval a X.env) :: starEach [.Name x p2] X.env := by rfl) (he2 : starEach [.Name x p2] X.env = (false, eval (.Name x p2) X.env) :: starEach [] X.env := by rfl) (hpl : (backTo pos (starEach [.Name x p2] X.env)).any (·.1) = false := by rfl) :
    SE X cf W .V true (.Call (.Name "isinstance" p) [a, .Name x p2] [] pos) (tCB (rIsi cf.K) (tCons ta (tCons (tC (.ty T)) tNil))) (eIsi T fa) := by
  rw [hK]
  refine SE.low (c := .B) (n := true) ⟨pe_callB call_isi hg hm (by decide +kernel) (pa_cons ha.p (pa_cons (pe_bltn hgT hmT hvT rfl hn hd) pa_nil he2) he) (by decide) (by decide) he hpl, ?_⟩ (e1_sc fun x d h => by
    unfold gIsi at h
    split at h <;> cases h; rfl)
  refine Sd.mk (fun R Hs env σ H F wf r d env' q Q k => ?_) (fun R Hs env σ H F wf r x env' q Q k => ?_)
  · obtain ⟨d1, env1, q1, q2⟩ := bnd_ok q
    obtain ⟨qg, rfl⟩ := lift_ok q2
    refine ha.b.s.ok r q1 fun v Hs1 H1 s1 r1 p1 _ => ?_
    unfold gIsi at qg
    split at qg
    · cases qg
      rename_i tn ht
      obtain ⟨m1, m2⟩ := rp_ty (rm_sub H1 wf) p1 ht
      refine ⟨v, .ty T, .type tn, .type T, isiB tn T, rfl, .ty T, by rw [← hK]; exact m2, kit_ty (isiB_ok tn m1 T hT), k _ Hs1 H1 s1 r1 (.bl _) fun _ _ => .bl _⟩
    · cases qg
  · rcases bnd_ex q with q | ⟨d1, env1, q1, q2⟩
    · exact ha.b.s.exn r q k
    · exact (lift_ex q2).elim
def eSlQ (i : Nat) (lo hi : M (Option Int)) : M D := fun e => match lstAt i e with
  | none => .stuck
  | some _ => bnd lo (fun l => bnd hi fun h => fun e => match lstAt i e with
    | some ds => if ds.all D.sc then .ok (.lst (cutA ds l h)) e else .stuck
    | none => .stuck) e
theorem q_list {R : Rs} {Hs : Hp} {env : PEnv} {σ : L2.St} {H : Hp} {F : Nat → List Addr} {wf : List Addr} {i : Nat} {ds : List D} (r : Rel cf R Hs env σ H F wf) (hk : cf.kd i = .Q) (h : lstAt i env = some ds) : ∃ p xs, σ[i]? = some (some (.ref p)) ∧ SqL cf.K H p xs ∧ RpL cf.K false Hs xs ds := by
  obtain ⟨v, h1, h2⟩ := r.slot i _ (lstAt_some h)
  rw [hk] at h2
  obtain ⟨a, xs, rfl, h3, h4⟩ := Rp.lst_inv h2
  exact ⟨a, xs, h1, ex_sql r.exs h3, h4⟩
end
def spLaw (K : PySem.W.Frag) (F : List D → FR) : Sp := fun vs H Q _ => vs.length = 1 ∧ ∃ (a : Addr) (ns : List Int), vs = [.ref a] ∧ SqL K H a (ns.map V.int) ∧ (∃ io, F [.lst (ns.map .int)] = .ok (.bl true) io) ∧ ∀ H', Q (.bl true) H'
section
variable {P : Program} {w : World} {K : PySem.W.Frag} {mg : Str → Option Value} {base : Heap}
theorem rpl_ints {K : PySem.W.Frag} {x : Bool} {G : Hp} : ∀ ns : List Int, RpL K x G (ns.map V.int) (ns.map D.int)
  | [] => .nil
  | n :: ns => .cons (.int n) (rpl_ints ns)
theorem fn_law {x qual : Str} {st : Stmt} {f : Addr} {fd : FuncData} (N : List Str) (mN : Nat) {y : Str} {k : Nat} (cf : Cf) (g : M Fl) (hN : N.length = mN) (F : Fun K x qual st f fd) (S : FnScope N [y] (defScope st)) (hK : cf.K = K) (hk : cf.kd 0 = .Q)
    (hbody : ∀ (cdv : Value) (A : Around) (outer : List Env) (s : Shared) (H : Hp) (E : XK), Room k (A.deeper (envOfC qual (defScope st) s.heap.objs.size f cdv)) → SSs (cxOf CX0 P w K mg base N qual (defScope st) f cdv A outer s H E).nox cf W0 (defBody st) g) :
    FnOk P w K mg base CX0 (k + 1) f fd [y] (spLaw K (runF mN g)) := by
  subst hN
  refine F.ok S (fun vs H Q E h => h.1) (fun cdv A outer s H vs Q E hr h => ?_)
  obtain ⟨hl, a, ns, rfl, hS, ⟨io, h⟩, hq⟩ := h
  obtain ⟨t, p, sd⟩ := hbody cdv A outer s H E hr
  refine ⟨t, p, ?_⟩
  have r : Rel cf ⟨H, none⟩ H (envOf N.length [.lst (ns.map .int)]) (L2.start N [.ref a]) H (fun _ => []) [] :=
    { len := env_len rfl
      exs := Ex.refl _
      ex0 := fun a o h _ => h
      dom0 := fun a h => h
      slot := fun i d q => by
        have q := envOf_get q
        cases i with
        | zero =>
          have q : D.lst (ns.map .int) = d := by simpa using q
          subst q
          refine ⟨.ref a, start_get rfl, ?_⟩
          rw [hk, hK]
          exact .lst hS (rpl_ints ns)
        | succ i => simp at q
      nod := fun _ => List.nodup_nil
      dis := fun _ _ _ _ m => by cases m
      fdom := fun _ _ m => by cases m
      uns := fun _ _ m => by cases m
      new := fun _ _ m => by cases m
      volw := fun _ _ _ m => by cases m
      volb := fun _ _ _ m => by cases m
      wdom := fun _ m => by cases m
      ior := fun p h => by cases h }
  refine sd _ _ _ _ _ _ _ r _ ?_
  unfold runF at h
  cases q : g (envOf N.length [.lst (ns.map .int)]) with
  | stuck => rw [q] at h; cases h
  | ex c e => rw [q] at h; cases h
  | ok fl e =>
    rw [q] at h
    cases fl with
    | nx => cases h
    | rt d =>
      cases h
      exact fun v Hs' σ' H' F' wf' _ r' pv => by rw [pv.bl_inv]; exact hq H'
    | bk => cases h
    | ct => cases h
end
end MV
namespace MV
open PySem PySem.Spec PyProof.Rows L2
theorem aLen1 {fr : M (List D)} {m : Nat} (h : ∀ ds env env', fr env = .ok ds env' → ds.length = m) : ∀ ds env env', fr env = .ok ds env' → ds.length + 1 = m + 1 := fun ds e e2 q => congrArg (· + 1) (h ds e e2 q)
def WFUEL : Nat := 1000000
theorem own1 {cf : Cf} {x : Str} {j : Nat} (h : cf.kd j = .S) : ∀ i ∈ ([(x, j)] : List (Str × Nat)).map (·.2), cf.kd i = .S := fun i m => by
  rw [List.mem_singleton.mp m]; exact h
theorem own2 {cf : Cf} {x y : Str} {j k : Nat} (h : cf.kd j = .S) (h2 : cf.kd k = .S) : ∀ i ∈ ([(x, j), (y, k)] : List (Str × Nat)).map (·.2), cf.kd i = .S := fun i m => by
  rcases List.mem_cons.mp m with e | m
  · rw [e]; exact h
  · rw [List.mem_singleton.mp m]; exact h2
section
variable {X : Cx} {cf : Cf} {W : WX} {c ca cb : Cls} {n n1 n2 : Bool}
section
variable {a b d e : Expr} {ta tb td te : TT} {fa fb fd fe : M Bool} {pos : Pos}
theorem st_or2 (ha : ST X cf W a ta fa) (hb : ST X cf W b tb fb) : ST X cf W (.BoolOp .Or [a, b] pos) (tOr ta tb) (tOr2 fa fb) := SW.st (sw_or ha (sw_or1 hb))
theorem st_and2 (ha : ST X cf W a ta fa) (hb : ST X cf W b tb fb) : ST X cf W (.BoolOp .And [a, b] pos) (tAnd ta tb) (tAnd2 fa fb) := SW.st (sw_and ha (sw_and1 hb))
end
def sAug (g : Int → Int → Int) (i : Nat) (f : M D) : M Fl := fun e => match e[i]? with
  | some (some (.int x)) => bnd f (fun y => fun e => match y with
    | .int y => .ok .nx (e.set i (some (.int (g x y))))
    | _ => .stuck) e
  | _ => .stuck
theorem ss_aug {i : Nat} {x : Str} {op : Operator} {g : Int → Int → Int} {e : Expr} {te : TE} {f : M D} {pos' pos : Pos} (ho : PIp X op (ipI g)) (hk : cf.kd i = .S ∨ cf.kd i = .N) (h : SE X cf W c n e te f) (hN : X.N.Nodup) (hi : X.N[i]? = some x) (hx : Loc X.env.scope x)
    (hf : X.fn x = true ∨ X.env.scope.names.lookup x = some .local := by first | exact .inl rfl | exact .inr rfl | assumption) : SS X cf W (.AugAssign (.Name x pos') op e pos) (sAug g i f) := by
  refine ⟨_, ps_aug hN hi hx h.p ho hf, fun R Hs env σ H F wf r D hp => ?_⟩
  unfold sAug at hp
  split at hp
  · rename_i x0 q
    obtain ⟨v, h1, h2⟩ := r.slot i _ q
    have ev : v = .int x0 := by
      rcases hk with hk | hk
      · rw [hk] at h2; exact Rp.int_inv h2
      · rw [hk] at h2; exact Rp.int_inv h2
    refine ⟨v, h1, ?_⟩
    refine h.s.bind r hp fun d env1 w Hs1 H1 s1 r1 p1 _ hp => ?_
    cases d with
    | int y =>
      refine ⟨x0, y, ev, p1.int_inv, ?_⟩
      refine hp Hs1 _ H1 F wf s1.ex (r1.put (i := i) (v := .int (g x0 y)) (d := .int (g x0 y)) ?_ fun F' => ?_)
      · rcases hk with hk | hk <;> rw [hk] <;> exact fun z => by cases z
      · rcases hk with hk | hk <;> rw [hk] <;> exact .int _
    | _ => exact hp.elim
  · exact hp.elim
theorem ss_iadd {i : Nat} {x : Str} {e : Expr} {te : TE} {f : M D} {pos' pos : Pos} (hk : cf.kd i = .S ∨ cf.kd i = .N) (h : SE X cf W c n e te f) (hN : X.N.Nodup) (hi : X.N[i]? = some x) (hx : Loc X.env.scope x) (hf : X.fn x = true ∨ X.env.scope.names.lookup x = some .local := by first | exact .inl rfl | exact .inr rfl | assumption) :
    SS X cf W (.AugAssign (.Name x pos') .Add e pos) (sAug (fun i j => i + j) i f) := ss_aug ip_add hk h hN hi hx hf
def sUnp (f : M D) (tg : D → M Unit) : M Fl := bnd f fun d => bnd (tg d) fun _ => ret .nx
theorem ss_unp {tgt e : Expr} {te : TE} {f : M D} {is : List Nat} {g : TG} {ft : D → M Unit} {pos : Pos} (h : SE X cf W .S n e te f) (hg : SGt X cf is tgt g ft)
    (hs : swapsWithSole [tgt] e pos.line X.env = pure false := by rfl) (hw : swappedStores [tgt] e X.env = pure none := by rfl) (h1 : (assignEach [tgt] X.env).map (·.2) = [assign tgt X.env] := by rfl) :
    SS X cf W (.Assign [tgt] e pos) (sUnp f ft) := by
  refine ⟨_, ps_asg h.p hg.p hs hw h1, fun R Hs env σ H F wf r D hp => ?_⟩
  refine h.s.bind r hp fun d env1 v Hs1 H1 s1 r1 p1 _ hp => ?_
  have hh := hg.s R Hs1 env1 σ H1 F wf r1 d v p1 D.nx
  cases q : ft d env1 with
  | stuck => rw [bnd_of_stuck q] at hp; exact hp.elim
  | ex x env2 => rw [q] at hh; exact hh.elim
  | ok u env2 =>
    rw [q] at hh
    rw [bnd_of_ok q] at hp
    exact hh fun σ' r' _ _ => hp Hs1 σ' H1 F wf s1.ex r'
end
end MV
namespace MV
open PySem (Str)
abbrev dI (l : List Int) : D := .lst (l.map .int)
abbrev dT (l : List Str) : D := .lst (l.map .str)
def rb {α β : Type} (r : Res α) (k : α → PEnv → Res β) : Res β := match r with
  | .ok a e => k a e
  | .ex c e => .ex c e
  | .stuck => .stuck
section
variable {α β : Type} {m : M α} {k : α → M β} {e : PEnv} {f g fa fb fc : M D} {a b : M Fl} {t u : M Bool} {r : M (List D)}
@[simp] theorem rb_ok {a : α} {e : PEnv} {k : α → PEnv → Res β} : rb (.ok a e) k = k a e := (rfl)
@[simp] theorem rb_ex {c : Str} {e : PEnv} {k : α → PEnv → Res β} : rb (.ex c e) k = .ex c e := (rfl)
@[simp] theorem rb_stuck {k : α → PEnv → Res β} : rb .stuck k = .stuck := (rfl)
@[simp] theorem rb_ite {p : Prop} [Decidable p] {x y : Res α} {k : α → PEnv → Res β} : rb (if p then x else y) k = if p then rb x k else rb y k := by split <;> rfl
@[simp] theorem r_ret {x : α} : ret x e = .ok x e := (rfl)
@[simp] theorem r_bnd : bnd m k e = rb (m e) k := (rfl)
@[simp] theorem r_lift_some {x : α} : lift (some x) e = .ok x e := (rfl)
@[simp] theorem r_lift_none : lift (none : Option α) e = .stuck := (rfl)
@[simp] theorem r_lift_ite {p : Prop} [Decidable p] {x y : Option α} : lift (if p then x else y) e = if p then lift x e else lift y e := by split <;> rfl
@[simp] theorem r_fail : (fail : M α) e = .stuck := (rfl)
@[simp] theorem r_eC {d : D} : eC d e = .ok d e := (rfl)
def getE (o : Option (Option D)) (e : PEnv) : Res D := match o with
  | some (some d) => .ok d e
  | _ => .stuck
@[simp] theorem getE_some {d : D} : getE (some (some d)) e = .ok d e := (rfl)
@[simp] theorem r_eV {i : Nat} : eV i e = getE (e[i]?) e := (rfl)
@[simp] theorem r_e1 {h : D → Option D} : e1 h fa e = rb (fa e) fun x e => lift (h x) e := (rfl)
@[simp] theorem r_e2 {h : D → D → Option D} : e2 h fa fb e = rb (fa e) fun x e => rb (fb e) fun y e => lift (h x y) e := (rfl)
@[simp] theorem r_eN {h : List D → Option D} : eN h r e = rb (r e) fun x e => lift (h x) e := (rfl)
@[simp] theorem r_aNil : aNil e = .ok [] e := (rfl)
@[simp] theorem r_aCons : aCons fa r e = rb (fa e) fun x e => rb (r e) fun xs e => .ok (x :: xs) e := (rfl)
@[simp] theorem r_tB : tB fa e = rb (fa e) fun x e => lift (asB x) e := (rfl)
@[simp] theorem r_asB {b : Bool} : asB (.bl b) = some b := (rfl)
@[simp] theorem r_tAnd2 : tAnd2 t u e = rb (t e) fun x e => if x then u e else .ok false e := by
  show rb (t e) _ = _
  congr 1; funext x e; cases x <;> rfl
@[simp] theorem r_tOr2 : tOr2 t u e = rb (t e) fun x e => if x then .ok true e else u e := by
  show rb (t e) _ = _
  congr 1; funext x e; cases x <;> rfl
@[simp] theorem r_tNot1 : tNot1 t e = rb (t e) fun x e => .ok (!x) e := (rfl)
@[simp] theorem r_tTrue : tTrue e = .ok true e := (rfl)
@[simp] theorem r_eAndV : eAndV fa fb e = rb (fa e) fun x e => rb (lift (asB x) e) fun k e => if k then fb e else .ok (.bl false) e := by
  show rb (fa e) _ = _
  congr 1; funext x e
  show rb _ _ = _
  congr 1; funext k e; cases k <;> rfl
@[simp] theorem r_eOrV : eOrV fa fb e = rb (fa e) fun x e => rb (lift (asB x) e) fun k e => if k then .ok (.bl true) e else fb e := by
  show rb (fa e) _ = _
  congr 1; funext x e
  show rb _ _ = _
  congr 1; funext k e; cases k <;> rfl
@[simp] theorem r_eNotV : eNotV fa e = rb (fa e) fun x e => rb (lift (asB x) e) fun k e => .ok (.bl (!k)) e := (rfl)
@[simp] theorem r_eIfE : eIfE t fa fb e = rb (t e) fun k e => if k then fa e else fb e := by
  show rb (t e) _ = _
  congr 1; funext k e; cases k <;> rfl
@[simp] theorem r_eF : eF fa e = rb (fa e) fun d e => if d.flat then .ok d e else .stuck := by
  show rb (fa e) _ = _
  congr 1; funext d e; cases h : d.flat <;> simp [h]
@[simp] theorem r_eS : eS fa e = rb (fa e) fun d e => if d.sc then .ok d e else .stuck := by
  show rb (fa e) _ = _
  congr 1; funext d e; cases h : d.sc <;> simp [h]
@[simp] theorem r_sSkip : sSkip e = .ok .nx e := (rfl)
@[simp] theorem r_sBrk : sBrk e = .ok .bk e := (rfl)
@[simp] theorem r_sCont : sCont e = .ok .ct e := (rfl)
def sqK (b : M Fl) : Fl → PEnv → Res Fl
  | .nx, e => b e
  | .rt d, e => .ok (.rt d) e
  | .bk, e => .ok .bk e
  | .ct, e => .ok .ct e
@[simp] theorem sqK_nx : sqK b .nx e = b e := (rfl)
@[simp] theorem sqK_rt {d : D} : sqK b (.rt d) e = .ok (.rt d) e := (rfl)
@[simp] theorem sqK_bk : sqK b .bk e = .ok .bk e := (rfl)
@[simp] theorem sqK_ct : sqK b .ct e = .ok .ct e := (rfl)
@[simp] theorem r_sSeq : sSeq a b e = rb (a e) (sqK b) := by
  show rb (a e) _ = _
  congr 1; funext f e; cases f <;> rfl
@[simp] theorem r_sDrop : sDrop fa e = rb (fa e) fun _ e => .ok .nx e := (rfl)
@[simp] theorem r_sRet : sRet fa e = rb (fa e) fun d e => .ok (.rt d) e := (rfl)
@[simp] theorem r_sRetN : sRetN e = .ok (.rt .non) e := (rfl)
@[simp] theorem r_sIf : sIf t a b e = rb (t e) fun k e => if k then a e else b e := by
  show rb (t e) _ = _
  congr 1; funext k e; cases k <;> rfl
@[simp] theorem r_sSet {i : Nat} : sSet i fa e = rb (fa e) fun d e => .ok .nx (e.set i (some d)) := (rfl)
@[simp] theorem r_sSetM {i : Nat} : sSetM i fa e = rb (fa e) fun d e => if mok d then .ok .nx (e.set i (some d)) else .stuck := by
  show rb (fa e) _ = _
  congr 1; funext d e; cases h : mok d <;> simp [h]
@[simp] theorem r_sSetW {i : Nat} : sSetW i fa e = rb (fa e) fun d e => if wok d then .ok .nx (e.set i (some d)) else .stuck := by
  show rb (fa e) _ = _
  congr 1; funext d e; cases h : wok d <;> simp [h]
def lstO (o : Option (Option D)) : Option (List D) := match o with
  | some (some (.lst ds)) => some ds
  | _ => none
@[simp] theorem lstO_some {ds : List D} : lstO (some (some (.lst ds))) = some ds := (rfl)
@[simp] theorem r_lstAt {i : Nat} : lstAt i e = lstO (e[i]?) := (rfl)
def ro {α β : Type} (o : Option α) (k : α → Res β) : Res β := match o with
  | some a => k a
  | none => .stuck
@[simp] theorem ro_some {a : α} {k : α → Res β} : ro (some a) k = k a := (rfl)
@[simp] theorem ro_none {k : α → Res β} : ro none k = .stuck := (rfl)
@[simp] theorem r_sApp {i : Nat} : sApp i fa e = ro (lstO (e[i]?)) fun _ => rb (fa e) fun d e => ro (lstO (e[i]?)) fun ds => if ds.length < LIM then .ok .nx (e.set i (some (.lst (ds ++ [d])))) else .stuck := by
  unfold sApp
  show _ = ro (lstAt i e) _
  cases lstAt i e with
  | none => rfl
  | some ds =>
    show rb (fa e) _ = _
    simp only [ro_some]
    congr 1; funext d e
    show _ = ro (lstAt i e) _
    cases lstAt i e <;> rfl
def asInt : D → Option Int
  | .int i => some i
  | _ => none
@[simp] theorem asInt_int {i : Int} : asInt (.int i) = some i := (rfl)
@[simp] theorem r_sPut {i : Nat} : sPut i fa fb e = rb (fa e) fun d e => ro (lstO (e[i]?)) fun _ => rb (fb e) fun k e => ro (lstO (e[i]?)) fun ds => ro (asInt k) fun z => ro (L2.ixN ds.length z) fun j => .ok .nx (e.set i (some (.lst (ds.set j d)))) := by
  show rb (fa e) _ = _
  congr 1; funext d e
  show _ = ro (lstAt i e) _
  cases lstAt i e with
  | none => rfl
  | some ds =>
    show rb (fb e) _ = _
    simp only [ro_some]
    congr 1; funext k e
    show _ = ro (lstAt i e) _
    cases lstAt i e with
    | none => rfl
    | some ds =>
      simp only [ro_some]
      cases k <;> first | rfl | (simp only [asInt_int, ro_some]; cases L2.ixN ds.length _ <;> rfl)
@[simp] theorem r_sPutW {i : Nat} : sPutW i fa fb e = rb (fa e) fun d e => ro (lstO (e[i]?)) fun _ => rb (fb e) fun k e => ro (lstO (e[i]?)) fun ds => ro (asInt k) fun z => ro (L2.ixN ds.length z) fun j => if d.sc then .ok .nx (e.set i (some (.lst (ds.set j d)))) else .stuck := by
  show rb (fa e) _ = _
  congr 1; funext d e
  show _ = ro (lstAt i e) _
  cases lstAt i e with
  | none => rfl
  | some ds =>
    show rb (fb e) _ = _
    simp only [ro_some]
    congr 1; funext k e
    show _ = ro (lstAt i e) _
    cases lstAt i e with
    | none => rfl
    | some ds =>
      simp only [ro_some]
      cases k <;> first | rfl | (simp only [asInt_int, ro_some]; cases L2.ixN ds.length _ <;> rfl)
@[simp] theorem r_eIxW {i : Nat} : eIxW i fa e = ro (lstO (e[i]?)) fun _ => rb (fa e) fun k e => ro (lstO (e[i]?)) fun ds => ro (asInt k) fun z => ro (L2.atI ds z) fun d => .ok d e := by
  unfold eIxW
  show _ = ro (lstAt i e) _
  cases lstAt i e with
  | none => rfl
  | some ds =>
    show rb (fa e) _ = _
    simp only [ro_some]
    congr 1; funext k e
    show _ = ro (lstAt i e) _
    cases lstAt i e with
    | none => rfl
    | some ds =>
      simp only [ro_some]
      cases k <;> first | rfl | (simp only [asInt_int, ro_some]; cases L2.atI ds _ <;> rfl)
@[simp] theorem r_sAug {i : Nat} {h : Int → Int → Int} : sAug h i fa e = ro ((e[i]?).bind id |>.bind asInt) fun x => rb (fa e) fun y e => ro (asInt y) fun y => .ok .nx (e.set i (some (.int (h x y)))) := by
  unfold sAug
  cases q : e[i]? with
  | none => rfl
  | some o =>
    cases o with
    | none => rfl
    | some d =>
      cases d with
      | int x =>
        show rb (fa e) _ = rb (fa e) _
        congr 1; funext y e; cases y <;> rfl
      | _ => rfl
def frR {β : Type} (r : FR) (k : D → D → Res β) (kx : Str → D → Res β) : Res β := match r with
  | .ok d io => k d io
  | .ex x io => kx x io
  | .stuck => .stuck
@[simp] theorem frR_ok {d io : D} {k : D → D → Res β} {kx : Str → D → Res β} : frR (.ok d io) k kx = k d io := (rfl)
@[simp] theorem frR_ex {x : Str} {io : D} {k : D → D → Res β} {kx : Str → D → Res β} : frR (.ex x io) k kx = kx x io := (rfl)
@[simp] theorem r_eCall {F : List D → FR} : eCall F r e = rb (r e) fun ds e => frR (F ds) (fun d _ => .ok d e) fun x _ => .ex x e := (rfl)
@[simp] theorem r_eCallW {F : List D → FR} {i : Nat} : eCallW F i r e = ro (lstO (e[i]?)) fun _ => rb (r e) fun ds e => ro (lstO (e[i]?)) fun ds0 => frR (F (.lst ds0 :: ds)) (fun d io => if wok io then .ok d (e.set i (some io)) else .stuck) fun x io => if wok io then .ex x (e.set i (some io)) else .stuck := by
  unfold eCallW
  show _ = ro (lstAt i e) _
  cases lstAt i e with
  | none => rfl
  | some ds =>
    show rb (r e) _ = _
    simp only [ro_some]
    congr 1; funext ds e
    show _ = ro (lstAt i e) _
    cases lstAt i e with
    | none => rfl
    | some ds0 =>
      simp only [ro_some]
      show frW i (F _) e = _
      cases F (.lst ds0 :: ds) <;> rfl
@[simp] theorem r_oNone : oNone e = .ok none e := (rfl)
@[simp] theorem r_oSome : oSome fa e = rb (fa e) fun d e => ro (asInt d) fun i => .ok (some i) e := by
  show rb (fa e) _ = _
  congr 1; funext d e; cases d <;> rfl
@[simp] theorem r_eSl {lo hi : M (Option Int)} : eSl fa lo hi e = rb (fa e) fun x e => rb (lo e) fun l e => rb (hi e) fun h e => lift (gSl x l h) e := (rfl)
@[simp] theorem r_iL : iL fa e = rb (fa e) fun d e => lift (asL d) e := (rfl)
@[simp] theorem r_iLs : iLs fa e = rb (fa e) fun d e => lift (asLs d) e := (rfl)
@[simp] theorem r_asLs {ds : List D} : asLs (.lst ds) = if ds.all D.sc then some ds else none := (rfl)
@[simp] theorem r_iT : iT fa e = rb (fa e) fun d e => lift (asT d) e := (rfl)
@[simp] theorem r_iS : iS fa e = rb (fa e) fun d e => lift (asStr d) e := (rfl)
@[simp] theorem r_iN {h : List D → Option (List D)} : iN h r e = rb (r e) fun x e => lift (h x) e := (rfl)
@[simp] theorem r_asL {ds : List D} : asL (.lst ds) = some ds := (rfl)
@[simp] theorem r_asT {ds : List D} : asT (.tup ds) = some ds := (rfl)
@[simp] theorem r_asStr {z : Str} : asStr (.str z) = some (strD z) := (rfl)
@[simp] theorem r_sFor {fi : M (List D)} {tg : D → M Unit} : sFor fi tg b e = rb (fi e) fun ds e => sForL tg b ds e := (rfl)
@[simp] theorem r_tgN {i : Nat} {d : D} : tgN i d e = .ok () (e.set i (some d)) := (rfl)
@[simp] theorem r_tgT {is : List Nat} {ds : List D} : tgT is (.tup ds) e = ro (setAll is ds e) fun e' => .ok () e' := by
  show (match setAll is ds e with | some e' => Res.ok () e' | none => .stuck) = _
  cases setAll is ds e <;> rfl
@[simp] theorem r_setAll_nil : setAll [] [] e = some e := (rfl)
@[simp] theorem r_setAll_cons {i : Nat} {is : List Nat} {d : D} {ds : List D} : setAll (i :: is) (d :: ds) e = setAll is ds (e.set i (some d)) := (rfl)
def lcK (is : List Nat) (e : PEnv) (r : Res (List D)) : Res D := match r with
  | .ok acc e1 => .ok (.lst acc) (restE is e e1)
  | _ => .stuck
@[simp] theorem lcK_ok {is : List Nat} {acc : List D} {e e1 : PEnv} : lcK is e (.ok acc e1) = .ok (.lst acc) (restE is e e1) := (rfl)
@[simp] theorem r_eLc {is : List Nat} {fi : M (List D)} {tg : D → M Unit} : eLc is fi tg t fa e = rb (fi e) fun ds e => lcK is e (lcGo is tg t fa ds [] (wipeE is e)) := (rfl)
@[simp] theorem wipeE_nil : wipeE [] e = e := (rfl)
@[simp] theorem wipeE_cons {v : Nat} {vs : List Nat} : wipeE (v :: vs) e = (wipeE vs e).set v none := (rfl)
@[simp] theorem restE_nil {e1 : PEnv} : restE [] e e1 = e1 := (rfl)
@[simp] theorem restE_cons {v : Nat} {vs : List Nat} {e1 : PEnv} : restE (v :: vs) e e1 = (restE vs e e1).set v ((e[v]?).getD none) := (rfl)
def finF (r : Res Fl) : FR := match r with
  | .ok (.rt d) e => .ok d (ioOf e)
  | .ok .nx e => .ok .non (ioOf e)
  | .ex c e => .ex c (ioOf e)
  | _ => .stuck
theorem r_runF {n : Nat} {ds : List D} : runF n a ds = finF (a (envOf n ds)) := (rfl)
@[simp] theorem finF_rt {d : D} : finF (.ok (.rt d) e) = .ok d (ioOf e) := (rfl)
@[simp] theorem finF_nx : finF (.ok .nx e) = .ok .non (ioOf e) := (rfl)
@[simp] theorem finF_ex {c : Str} : finF (.ex c e) = .ex c (ioOf e) := (rfl)
@[simp] theorem finF_ite {p : Prop} [Decidable p] {x y : Res Fl} : finF (if p then x else y) = if p then finF x else finF y := by split <;> rfl
@[simp] theorem ioOf_some {d : D} {e : PEnv} : ioOf (some d :: e) = d := (rfl)
@[simp] theorem ioOf_nil : ioOf [] = .non := (rfl)
@[simp] theorem r_envOf {n : Nat} {ds : List D} : envOf n ds = ds.map some ++ List.replicate (n - ds.length) none := (rfl)
section
variable {i j : Int} {x y : Str} {l l2 ds ds2 : List D} {k : Bool}
@[simp] theorem gSub_i : gSub (.int i) (.int j) = some (.int (i - j)) := (rfl)
@[simp] theorem gAdd_i : gAdd (.int i) (.int j) = some (.int (i + j)) := (rfl)
@[simp] theorem gAdd_l : gAdd (.lst l) (.lst l2) = if l.length + l2.length ≤ LIM then some (.lst (l ++ l2)) else none := (rfl)
@[simp] theorem gAdd_s : gAdd (.str x) (.str y) = if x.length + y.length ≤ LIM then some (.str (x ++ y)) else none := (rfl)
@[simp] theorem gMul_i : gMul (.int i) (.int j) = if mulOk i j then some (.int (i * j)) else none := (rfl)
@[simp] theorem gMul_s : gMul (.str x) (.int i) = if x.length * i.toNat ≤ LIM ∧ -(2 ^ 63) ≤ i ∧ i < 2 ^ 31 then some (.str (repS x i.toNat)) else none := (rfl)
@[simp] theorem gFdiv_i : gFdiv (.int i) (.int j) = if L2.CDiv i j ∨ divW j = true then some (.int (i / j)) else none := (rfl)
@[simp] theorem gShr_i : gShr (.int i) (.int j) = if 0 ≤ j then some (.int (i / 2 ^ j.toNat)) else none := (rfl)
@[simp] theorem gShl_i : gShl (.int i) (.int j) = if L2.CPow i j then some (.int (i * 2 ^ j.toNat)) else none := (rfl)
@[simp] theorem gMod_i : gMod (.int i) (.int j) = if 0 < j then some (.int (i % j)) else none := (rfl)
@[simp] theorem gPow_i : gPow (.int i) (.int j) = if L2.CPow i j then some (.int (i ^ j.toNat)) else none := (rfl)
@[simp] theorem gLt_i : gLt (.int i) (.int j) = some (.bl (decide (i < j))) := (rfl)
@[simp] theorem gLe_i : gLe (.int i) (.int j) = some (.bl (decide (i ≤ j))) := (rfl)
@[simp] theorem gGt_i : gGt (.int i) (.int j) = some (.bl (decide (j < i))) := (rfl)
@[simp] theorem gGe_i : gGe (.int i) (.int j) = some (.bl (decide (j ≤ i))) := (rfl)
@[simp] theorem gNeg_i : gNeg (.int i) = some (.int (-i)) := (rfl)
@[simp] theorem gEq_i : gEq (.int i) (.int j) = some (.bl (decide (i = j))) := (rfl)
@[simp] theorem gNe_i : gNe (.int i) (.int j) = some (.bl (!decide (i = j))) := (rfl)
@[simp] theorem gEq_s : gEq (.str x) (.str y) = some (.bl (decide (x = y))) := (rfl)
@[simp] theorem gNe_s : gNe (.str x) (.str y) = some (.bl (!decide (x = y))) := (rfl)
@[simp] theorem gLst_ : gLst ds = if ds.length ≤ PySem.sizeLine then some (.lst ds) else none := (rfl)
@[simp] theorem gTupD_ : gTupD ds = if ds.length ≤ PySem.sizeLine then some (.tup ds) else none := (rfl)
@[simp] theorem gLen_l : gLen [.lst ds] = some (.int ds.length) := (rfl)
@[simp] theorem gLen_t : gLen [.tup ds] = some (.int ds.length) := (rfl)
@[simp] theorem gLen_s : gLen [.str x] = if x.length ≤ LIM then some (.int x.length) else none := (rfl)
@[simp] theorem gMax2_i : gMax2 [.int i, .int j] = some (.int (if j > i then j else i)) := (rfl)
@[simp] theorem gMin2_i : gMin2 [.int i, .int j] = some (.int (if j < i then j else i)) := (rfl)
@[simp] theorem gInt1_i : gInt1 [.int i] = some (.int i) := (rfl)
@[simp] theorem gInt1_b : gInt1 [.bl k] = some (.int (if k then 1 else 0)) := (rfl)
@[simp] theorem gList1_l : gList1 [.lst ds] = some (.lst ds) := (rfl)
@[simp] theorem gIx_l : gIx (.lst ds) (.int i) = L2.atI ds i := (rfl)
@[simp] theorem gIx_t : gIx (.tup ds) (.int i) = L2.atI ds i := (rfl)
@[simp] theorem gIx_s : gIx (.str x) (.int i) = if x.length ≤ LIM then (L2.atI x.cps.toList i).map fun c => .str ⟨#[c]⟩ else none := (rfl)
@[simp] theorem gSl_l {o o2 : Option Int} : gSl (.lst ds) o o2 = some (.lst (cutA ds o o2)) := (rfl)
@[simp] theorem gSl_s {o o2 : Option Int} : gSl (.str x) o o2 = if x.length ≤ LIM then some (.str (L2.cutS x o o2)) else none := (rfl)
@[simp] theorem gRev_l : gRev (.lst ds) = some (.lst ds.reverse) := (rfl)
@[simp] theorem gEn_l : gEn [.lst ds] = some (enumD ds) := (rfl)
@[simp] theorem gZp_l : gZp [.lst ds, .lst ds2] = some (zipD ds ds2) := (rfl)
@[simp] theorem gR1_i : gR1 [.int j] = if smallI j then some (rngD 0 j.toNat) else none := (rfl)
@[simp] theorem gR2_i : gR2 [.int i, .int j] = if smallI i && smallI j then some (rngD i (j - i).toNat) else none := (rfl)
@[simp] theorem sc_i : (D.int i).sc = true := (rfl)
@[simp] theorem sc_s : (D.str x).sc = true := (rfl)
@[simp] theorem sc_b : (D.bl k).sc = true := (rfl)
@[simp] theorem sc_n : D.non.sc = true := (rfl)
@[simp] theorem flat_i : (D.int i).flat = true := (rfl)
@[simp] theorem flat_s : (D.str x).flat = true := (rfl)
@[simp] theorem flat_b : (D.bl k).flat = true := (rfl)
@[simp] theorem flat_n : D.non.flat = true := (rfl)
@[simp] theorem flat_l : (D.lst ds).flat = ds.all D.sc := (rfl)
@[simp] theorem flat_t : (D.tup ds).flat = ds.all D.sc := (rfl)
@[simp] theorem wok_l : wok (.lst ds) = ds.all D.sc := (rfl)
@[simp] theorem mok_l : mok (.lst ds) = ds.all fun x => x.sc || match x with | .tup es => es.all D.sc | _ => false := (rfl)
theorem all_ints (l : List Int) : (l.map D.int).all D.sc = true := by simp [List.all_map]
theorem all_strs (l : List Str) : (l.map D.str).all D.sc = true := by simp [List.all_map]
@[simp] theorem mok_dI (l : List Int) : mok (dI l) = true := by simp [List.all_map]
@[simp] theorem mok_dT (l : List Str) : mok (dT l) = true := by simp [List.all_map]
@[simp] theorem flat_dI (l : List Int) : (dI l).flat = true := all_ints l
@[simp] theorem flat_dT (l : List Str) : (dT l).flat = true := all_strs l
@[simp] theorem wok_dI (l : List Int) : wok (dI l) = true := all_ints l
end
end
end MV
namespace MV
open PySem (Str PyData)
section
variable {tg : D → M Unit} {b : M Fl} {e : PEnv} {t : M Bool} {fe : M D} {is : List Nat}
theorem for_inv {ds : List D} (I : Nat → PEnv → Prop) (h0 : I 0 e) (hs : ∀ i d e, ds[i]? = some d → I i e → ∃ e1 e2 fl, tg d e = .ok () e1 ∧ b e1 = .ok fl e2 ∧ (fl = .nx ∨ fl = .ct) ∧ I (i + 1) e2) :
    ∃ e', sForL tg b ds e = .ok .nx e' ∧ I ds.length e' := by
  induction ds generalizing e I with
  | nil => exact ⟨e, rfl, h0⟩
  | cons d r ih =>
    obtain ⟨e1, e2, fl, h1, h2, h3, h4⟩ := hs 0 d e rfl h0
    obtain ⟨e', h5, h6⟩ := ih (e := e2) (fun i => I (i + 1)) h4 (fun i d e hd hi => hs (i + 1) d e (by simpa using hd) hi)
    refine ⟨e', ?_, by simpa using h6⟩
    rw [sForL, bnd_of_ok h1, bnd_of_ok h2]
    rcases h3 with rfl | rfl <;> exact h5
theorem lc_pure {α : Type} {φ : α → D} {p : α → Bool} {g : α → D} : ∀ (l : List α) (acc : List D), acc.length + l.length ≤ LIM →
    (∀ x ∈ l, ∃ e1 e2, tg (φ x) e = .ok () e1 ∧ t e1 = .ok (p x) e2 ∧ (p x = true → ∃ e3, fe e2 = .ok (g x) e3 ∧ wipeE is e3 = e) ∧ (p x = false → wipeE is e2 = e)) →
    lcGo is tg t fe (l.map φ) acc e = .ok (acc ++ (l.filter p).map g) e
  | [], acc, _, _ => by simp [lcGo]
  | x :: l, acc, hl, h => by
    obtain ⟨e1, e2, h1, h2, h3, h4⟩ := h x List.mem_cons_self
    rw [List.map_cons, lcGo, bnd_of_ok h1, bnd_of_ok h2]
    have ih := fun acc' hl' => lc_pure l acc' hl' fun y hy => h y (List.mem_cons_of_mem _ hy)
    rw [List.length_cons] at hl
    cases q : p x with
    | true =>
      obtain ⟨e3, h5, h6⟩ := h3 q
      show bnd fe _ e2 = _
      rw [bnd_of_ok h5, if_pos (by omega : acc.length < LIM)]
      show lcGo is tg t fe (l.map φ) (acc ++ [g x]) (wipeE is e3) = _
      rw [h6, ih (acc ++ [g x]) (by rw [List.length_append, List.length_singleton]; omega)]
      simp [List.filter_cons, q]
    | false =>
      show lcGo is tg t fe (l.map φ) acc (wipeE is e2) = _
      rw [h4 q, ih acc (by omega)]
      simp [List.filter_cons, q]
theorem lc_inv {ds : List D} (I : Nat → List D → PEnv → Prop) : ∀ (acc : List D) (e : PEnv), I 0 acc e → acc.length + ds.length ≤ LIM →
    (∀ i d acc e, ds[i]? = some d → I i acc e → ∃ e1 e2 k, tg d e = .ok () e1 ∧ t e1 = .ok k e2 ∧ (k = true → ∃ y e3, fe e2 = .ok y e3 ∧ I (i + 1) (acc ++ [y]) (wipeE is e3)) ∧ (k = false → I (i + 1) acc (wipeE is e2))) →
    ∃ a' e', lcGo is tg t fe ds acc e = .ok a' e' ∧ I ds.length a' e' := by
  induction ds generalizing I with
  | nil => intro acc e h0 _ _; exact ⟨acc, e, rfl, h0⟩
  | cons d r ih =>
    intro acc e h0 hl hs
    obtain ⟨e1, e2, k, h1, h2, h3, h4⟩ := hs 0 d acc e rfl h0
    rw [List.length_cons] at hl
    rw [lcGo, bnd_of_ok h1, bnd_of_ok h2]
    cases k with
    | true =>
      obtain ⟨y, e3, h5, h6⟩ := h3 rfl
      obtain ⟨a', e', h7, h8⟩ := ih (fun i => I (i + 1)) (acc ++ [y]) (wipeE is e3) h6 (by rw [List.length_append, List.length_singleton]; omega) (fun i d acc e hd hi => hs (i + 1) d acc e (by simpa using hd) hi)
      refine ⟨a', e', ?_, by simpa using h8⟩
      show bnd fe _ e2 = _
      rw [bnd_of_ok h5, if_pos (by omega : acc.length < LIM)]
      exact h7
    | false =>
      obtain ⟨a', e', h7, h8⟩ := ih (fun i => I (i + 1)) acc (wipeE is e2) (h4 rfl) (by omega) (fun i d acc e hd hi => hs (i + 1) d acc e (by simpa using hd) hi)
      exact ⟨a', e', h7, by simpa using h8⟩
end
section
variable {α β : Type}
theorem cutA_to (l : List α) (k : Nat) : cutA l none (some (k : Int)) = l.take k := by
  unfold cutA
  rw [HT.sIx_none, HT.sIx_nat, List.drop_zero, Nat.sub_zero]
  apply List.ext_getElem?
  intro i
  rw [List.getElem?_take, List.getElem?_take]
  by_cases h : i < k
  · by_cases h2 : i < l.length
    · rw [if_pos (by omega), if_pos h]
    · rw [List.getElem?_eq_none (by omega)]; simp
  · rw [if_neg (by omega), if_neg h]
theorem cutA_from (l : List α) (k : Nat) : cutA l (some (k : Int)) none = l.drop k := by
  unfold cutA
  rw [HT.sIx_none, HT.sIx_nat, List.take_of_length_le (by rw [List.length_drop]; omega)]
  apply List.ext_getElem?
  intro i
  rw [List.getElem?_drop, List.getElem?_drop]
  by_cases h2 : k ≤ l.length
  · rw [Nat.min_eq_left h2]
  · rw [List.getElem?_eq_none (by omega), List.getElem?_eq_none (by omega)]
theorem cutA_mid (l : List α) (i j : Nat) : cutA l (some (i : Int)) (some (j : Int)) = (l.drop i).take (j - i) := by
  unfold cutA
  rw [HT.sIx_nat, HT.sIx_nat]
  apply List.ext_getElem?
  intro m
  rw [List.getElem?_take, List.getElem?_take, List.getElem?_drop, List.getElem?_drop]
  by_cases h : i ≤ l.length
  · rw [Nat.min_eq_left h]
    by_cases h2 : i + m < l.length
    · by_cases h3 : m < j - i
      · rw [if_pos (by omega), if_pos h3]
      · rw [if_neg (by omega), if_neg h3]
    · rw [List.getElem?_eq_none (by omega)]; simp
  · rw [List.getElem?_eq_none (by omega), List.getElem?_eq_none (by omega)]; simp
theorem cutA_map (f : α → β) (l : List α) (lo hi : Option Int) : cutA (l.map f) lo hi = (cutA l lo hi).map f := by
  unfold cutA
  rw [List.length_map, List.map_take, List.map_drop]
theorem atI_eq (l : List α) (j : Nat) : L2.atI l (j : Int) = l[j]? := by
  cases h : l[j]? with
  | some v => exact L2.atI_nat h
  | none =>
    rw [List.getElem?_eq_none_iff] at h
    unfold L2.atI L2.ixN
    rw [if_pos (by omega), if_neg (by omega)]
    rfl
end
theorem toPs_map {α : Type} {f : α → D} {g : α → PyData} (h : ∀ x, (f x).toP = some (g x)) : ∀ l : List α, toPs (l.map f) = some (l.map g)
  | [] => by rw [List.map_nil, toPs]; rfl
  | x :: l => by rw [List.map_cons, toPs, h, toPs_map h l]; rfl
theorem toP_int (i : Int) : (D.int i).toP = some (.int i) := by rw [D.toP]
theorem toP_str (x : Str) : (D.str x).toP = some (.str x) := by rw [D.toP]
theorem toP_lst {ds : List D} {ps : List PyData} (h : toPs ds = some ps) : (D.lst ds).toP = some (.list ps) := by rw [D.toP, h]; rfl
theorem eqvAll_ints : ∀ a b : List Int, PyData.eqvAll (a.map .int) (b.map .int) = decide (a = b)
  | [], [] => by simp [PyData.eqvAll]
  | [], _ :: _ => by simp [PyData.eqvAll]
  | _ :: _, [] => by simp [PyData.eqvAll]
  | x :: a, y :: b => by
    rw [List.map_cons, List.map_cons, PyData.eqvAll, eqvAll_ints a b, PyData.eqv, Bool.eq_iff_iff]
    simp
theorem eqvAll_strs : ∀ a b : List Str, PyData.eqvAll (a.map .str) (b.map .str) = decide (a = b)
  | [], [] => by simp [PyData.eqvAll]
  | [], _ :: _ => by simp [PyData.eqvAll]
  | _ :: _, [] => by simp [PyData.eqvAll]
  | x :: a, y :: b => by
    rw [List.map_cons, List.map_cons, PyData.eqvAll, eqvAll_strs a b, PyData.eqv, Bool.eq_iff_iff]
    simp
theorem lay_ints : ∀ a : List Int, PyData.canLayAll0 (a.map .int) = true
  | [] => by simp [PyData.canLayAll0]
  | x :: a => by rw [List.map_cons, PyData.canLayAll0, PyData.canLay0, lay_ints a]; rfl
theorem depth_ints : ∀ a : List Int, PyData.depthAll (a.map .int) = 0
  | [] => by simp [PyData.depthAll]
  | x :: a => by rw [List.map_cons, PyData.depthAll, PyData.depth, depth_ints a]; rfl
def okS (x : Str) : Prop := PyData.strOk x = true
theorem lay_strs : ∀ a : List Str, (∀ x ∈ a, okS x) → PyData.canLayAll0 (a.map .str) = true
  | [], _ => by simp [PyData.canLayAll0]
  | x :: a, h => by rw [List.map_cons, PyData.canLayAll0, PyData.canLay0, lay_strs a fun y hy => h y (List.mem_cons_of_mem _ hy), h x List.mem_cons_self]; rfl
theorem depth_strs : ∀ a : List Str, PyData.depthAll (a.map .str) = 0
  | [] => by simp [PyData.depthAll]
  | x :: a => by rw [List.map_cons, PyData.depthAll, PyData.depth, depth_strs a]; rfl
theorem shaped_ints (a : List Int) : PySem.SeqAt.shaped (.list (a.map .int)) = true := by
  unfold PySem.SeqAt.shaped
  rw [PyData.canLay0, lay_ints, PyData.depth, depth_ints]; rfl
theorem shaped_strs {a : List Str} (h : ∀ x ∈ a, okS x) : PySem.SeqAt.shaped (.list (a.map .str)) = true := by
  unfold PySem.SeqAt.shaped
  rw [PyData.canLay0, lay_strs a h, PyData.depth, depth_strs]; rfl
theorem deq_dI (a b : List Int) : deq (dI a) (dI b) = some (decide (a = b)) := by
  have h1 : (dI a).toP = some (.list (a.map .int)) := toP_lst (toPs_map toP_int a)
  have h2 : (dI b).toP = some (.list (b.map .int)) := toP_lst (toPs_map toP_int b)
  show (match (dI a).toP, (dI b).toP with | some p, some q => if PySem.SeqAt.shaped p && PySem.SeqAt.shaped q then some (PyData.eqv p q) else none | _, _ => none) = _
  rw [h1, h2]
  simp only [shaped_ints, Bool.and_self, if_true]
  rw [PyData.eqv, eqvAll_ints]
theorem deq_dT {a b : List Str} (ha : ∀ x ∈ a, okS x) (hb : ∀ x ∈ b, okS x) : deq (dT a) (dT b) = some (decide (a = b)) := by
  have h1 : (dT a).toP = some (.list (a.map .str)) := toP_lst (toPs_map toP_str a)
  have h2 : (dT b).toP = some (.list (b.map .str)) := toP_lst (toPs_map toP_str b)
  show (match (dT a).toP, (dT b).toP with | some p, some q => if PySem.SeqAt.shaped p && PySem.SeqAt.shaped q then some (PyData.eqv p q) else none | _, _ => none) = _
  rw [h1, h2]
  simp only [shaped_strs ha, shaped_strs hb, Bool.and_self, if_true]
  rw [PyData.eqv, eqvAll_strs]
theorem gEq_dI (a b : List Int) : gEq (dI a) (dI b) = some (.bl (decide (a = b))) := by unfold gEq; rw [deq_dI]; rfl
theorem gNe_dI (a b : List Int) : gNe (dI a) (dI b) = some (.bl (!decide (a = b))) := by unfold gNe; rw [deq_dI]; rfl
theorem gEq_dT {a b : List Str} (ha : ∀ x ∈ a, okS x) (hb : ∀ x ∈ b, okS x) : gEq (dT a) (dT b) = some (.bl (decide (a = b))) := by unfold gEq; rw [deq_dT ha hb]; rfl
theorem gNe_dT {a b : List Str} (ha : ∀ x ∈ a, okS x) (hb : ∀ x ∈ b, okS x) : gNe (dT a) (dT b) = some (.bl (!decide (a = b))) := by unfold gNe; rw [deq_dT ha hb]; rfl
def Sg (s : Str) : Prop := ∃ c : Nat, s = ⟨#[c]⟩ ∧ 97 ≤ c ∧ c ≤ 122
theorem Sg.ok {s : Str} (h : Sg s) : okS s := by
  obtain ⟨c, rfl, _, h2⟩ := h
  unfold okS PyData.strOk
  simp
  omega
def Tx (t : List Str) : Prop := ∀ x ∈ t, Sg x
theorem Tx.ok {t : List Str} (h : Tx t) : ∀ x ∈ t, okS x := fun x hx => (h x hx).ok
theorem okNil : ∀ x ∈ ([] : List Str), okS x := fun _ h => by cases h
theorem Tx.take {t : List Str} (h : Tx t) (k : Nat) : Tx (t.take k) := fun x hx => h x (List.mem_of_mem_take hx)
theorem Tx.drop {t : List Str} (h : Tx t) (k : Nat) : Tx (t.drop k) := fun x hx => h x (List.mem_of_mem_drop hx)
theorem Tx.append {t u : List Str} (h : Tx t) (h2 : Tx u) : Tx (t ++ u) := fun x hx => (List.mem_append.mp hx).elim (h x) (h2 x)
theorem Tx.set {t : List Str} (h : Tx t) {x : Str} (hx : Sg x) (k : Nat) : Tx (t.set k x) := fun y hy => by
  rcases List.mem_or_eq_of_mem_set hy with hy | rfl
  · exact h y hy
  · exact hx
end MV
namespace MV
open PySem (Str PyData)
abbrev dN (l : List Nat) : D := .lst (l.map fun k : Nat => D.int (k : Int))
theorem dN_dI (l : List Nat) : dN l = dI (l.map fun k : Nat => (k : Int)) := by
  show D.lst _ = D.lst _
  rw [List.map_map]; rfl
theorem cast_inj {a b : List Nat} : (a.map (fun k : Nat => (k : Int)) = b.map fun k : Nat => (k : Int)) ↔ a = b :=
  ⟨fun h => (List.map_inj_right (fun x y h => by omega)).mp h, fun h => by rw [h]⟩
theorem gEq_dN (a b : List Nat) : gEq (dN a) (dN b) = some (.bl (decide (a = b))) := by
  rw [dN_dI, dN_dI, gEq_dI]; simp only [cast_inj]
theorem gNe_dN (a b : List Nat) : gNe (dN a) (dN b) = some (.bl (!decide (a = b))) := by
  rw [dN_dI, dN_dI, gNe_dI]; simp only [cast_inj]
theorem rng0 (n : Nat) : rngD 0 n = (List.range n).map fun k : Nat => D.int (k : Int) := by
  unfold rngD; simp
theorem rngN (m n : Nat) : rngD (m : Int) n = (List.range' m n).map fun k : Nat => D.int (k : Int) := by
  unfold rngD
  rw [List.range'_eq_map_range, List.map_map]
  apply List.map_congr_left
  intro k _
  simp
theorem rngN_get {m n i : Nat} {d : D} (h : (rngD (m : Int) n)[i]? = some d) : i < n ∧ d = .int ((m + i : Nat) : Int) := by
  rw [rngN] at h
  rw [List.getElem?_map] at h
  by_cases hi : i < n
  · rw [List.getElem?_range' hi] at h
    simp at h; exact ⟨hi, by rw [← h]; congr 1⟩
  · rw [List.getElem?_eq_none (by simp; omega)] at h; cases h
theorem rng0_get {n i : Nat} {d : D} (h : (rngD 0 n)[i]? = some d) : i < n ∧ d = .int (i : Int) := by
  have := rngN_get (m := 0) (n := n) (i := i) (d := d) (by simpa using h)
  simpa using this
theorem small_of {i : Int} (h : -1000000 ≤ i) (h2 : i ≤ 1000000) : smallI i = true := decide_eq_true (by omega)
theorem lc_nat {is : List Nat} {tg : D → M Unit} {t : M Bool} {fe : M D} {e : PEnv} (p : Nat → Bool) (g : Nat → D) (l : List Nat) (hl : l.length ≤ LIM)
    (h : ∀ k ∈ l, ∃ e1 e2, tg (.int (k : Int)) e = .ok () e1 ∧ t e1 = .ok (p k) e2 ∧ (p k = true → ∃ e3, fe e2 = .ok (g k) e3 ∧ wipeE is e3 = e) ∧ (p k = false → wipeE is e2 = e)) :
    lcGo is tg t fe (l.map fun k : Nat => D.int (k : Int)) [] e = .ok ((l.filter p).map g) e := by
  have := lc_pure (φ := fun k : Nat => D.int (k : Int)) (p := p) (g := g) l [] (by simpa using hl) h
  simpa using this
section
variable {α : Type} {a b c d x : α} {l : List α}
@[simp] theorem atI0 : L2.atI (a :: l) 0 = some a := by rw [show (0 : Int) = ((0 : Nat) : Int) from rfl, atI_eq]; rfl
@[simp] theorem atI1 : L2.atI (a :: b :: l) 1 = some b := by rw [show (1 : Int) = ((1 : Nat) : Int) from rfl, atI_eq]; rfl
@[simp] theorem atI2 : L2.atI (a :: b :: c :: l) 2 = some c := by rw [show (2 : Int) = ((2 : Nat) : Int) from rfl, atI_eq]; rfl
@[simp] theorem atI3 : L2.atI (a :: b :: c :: d :: l) 3 = some d := by rw [show (3 : Int) = ((3 : Nat) : Int) from rfl, atI_eq]; rfl
@[simp] theorem atI4 : L2.atI (a :: b :: c :: d :: x :: l) 4 = some x := by rw [show (4 : Int) = ((4 : Nat) : Int) from rfl, atI_eq]; rfl
end
theorem cutA_mid2 {α : Type} (l : List α) (i j : Nat) : cutA l (some (i : Int)) (some ((i : Int) + (j : Int))) = (l.drop i).take j := by
  rw [show ((i : Int) + (j : Int)) = ((i + j : Nat) : Int) by omega, cutA_mid, show i + j - i = j by omega]
theorem gEq_nT {a : List Str} (ha : ∀ x ∈ a, okS x) : gEq (dT a) (.lst []) = some (.bl (decide (a = []))) := gEq_dT ha okNil
theorem gNe_nT {a : List Str} (ha : ∀ x ∈ a, okS x) : gNe (dT a) (.lst []) = some (.bl (!decide (a = []))) := gNe_dT ha okNil
@[simp] theorem gEq_nn : gEq (.lst []) (.lst []) = some (.bl true) := gEq_dN [] []
@[simp] theorem gNe_nn : gNe (.lst []) (.lst []) = some (.bl false) := gNe_dN [] []
@[simp] theorem filter_no {α : Type} (l : List α) : l.filter (fun _ => false) = [] := by induction l <;> simp_all
@[simp] theorem r_eIsi {T : String} {f : M D} {e : PEnv} : eIsi T f e = rb (f e) fun x e => lift (gIsi T x) e := (rfl)
section
variable {ds : List D} {i : Int} {k : Bool} {x : Str}
@[simp] theorem isi_list {ds : List D} : gIsi "list" (.lst ds) = some (.bl true) := (rfl)
@[simp] theorem isi_int {i : Int} : gIsi "int" (.int i) = some (.bl true) := (rfl)
@[simp] theorem isi_boolI {i : Int} : gIsi "bool" (.int i) = some (.bl false) := (rfl)
@[simp] theorem isi_boolB {b : Bool} : gIsi "bool" (.bl b) = some (.bl true) := (rfl)
@[simp] theorem isi_tup {ds : List D} : gIsi "tuple" (.tup ds) = some (.bl true) := (rfl)
@[simp] theorem isi_str {x : Str} : gIsi "str" (.str x) = some (.bl true) := (rfl)
end
theorem hsz0 : (0 : Nat) ≤ PySem.sizeLine := Nat.zero_le _
@[simp] theorem r_eSlQ {i : Nat} {lo hi : M (Option Int)} {e : PEnv} : eSlQ i lo hi e = ro (lstO (e[i]?)) fun _ => rb (lo e) fun l e => rb (hi e) fun h e => ro (lstO (e[i]?)) fun ds => if ds.all D.sc then .ok (.lst (cutA ds l h)) e else .stuck := by
  unfold eSlQ
  show _ = ro (lstAt i e) _
  cases lstAt i e with
  | none => rfl
  | some ds =>
    show rb (lo e) _ = _
    simp only [ro_some]
    congr 1; funext l e
    show rb (hi e) _ = _
    congr 1; funext h e
    show _ = ro (lstAt i e) _
    cases lstAt i e with
    | none => rfl
    | some ds => rfl
end MV
namespace MV
open PySem PySem.Spec PyProof.Rows L2
def tru : D → Option Bool
  | .non => some false
  | .bl b => some b
  | .int i => some (i != 0)
  | .lst ds => some (!ds.isEmpty)
  | .tup ds => some (!ds.isEmpty)
  | _ => none
theorem rpl_empty {K : PySem.W.Frag} {x : Bool} {G : Hp} {xs : List V} {ds : List D} (r : RpL K x G xs ds) : (!ds.isEmpty) = !xs.isEmpty := by cases r <;> rfl
theorem tru_rp {K : PySem.W.Frag} {G H : Hp} {v : V} {d : D} {k : Bool} (e : Ex G H) (h : Rp K true G v d) (q : tru d = some k) : TruV K v H k := by
  cases h with
  | sc z => cases d <;> cases z <;> cases q <;> rfl
  | lst s r => cases q; exact .inl ⟨_, ex_sql e s.any, rpl_empty r⟩
  | tup s r => cases q; exact .inr (.inl ⟨_, ex_sqt e s.any, rpl_empty r⟩)
  | dic => cases q
  | dit => cases q
  | exc => cases q
section
variable {X : Cx} {cf : Cf} {W : WX} {c : Cls} {n n1 n2 : Bool}
theorem SE.nn {e : Expr} {te : TE} {f : M D} (h : SE X cf W c n e te f) : SE X cf W c false e te f := ⟨h.p, fun R Hs env σ H F wf r Q => by
  have h := h.s R Hs env σ H F wf r Q
  cases q : f env with
  | ok d env' => rw [q] at h; exact fun k => h fun v Hs' H' s r' p nr => k v Hs' H' s r' p fun z => by cases z
  | ex x env' => rw [q] at h; exact h
  | stuck => trivial⟩
def eOrT (a b : M D) : M D := bnd a fun x => bnd (lift (tru x)) fun k => if k then ret x else b
def tTr (f : M D) : M Bool := bnd f fun d => lift (tru d)
def tTru (K : PySem.W.Frag) (ta : TE) : TT := fun σ H Q => ta σ H fun x H' => ∃ k, TruV K x H' k ∧ Q k H'
theorem sdt_tru {te : TE} {f : M D} (h : Sd cf W c n te f) : SdT cf W (tTru cf.K te) (tTr f) := by
  refine SdT.mk (fun R Hs env σ H F wf r d env' q Q k => ?_) (fun R Hs env σ H F wf r x env' q Q k => ?_)
  · obtain ⟨d1, env1, q1, q⟩ := bnd_ok q
    obtain ⟨qg, rfl⟩ := lift_ok q
    exact h.ok r q1 fun v Hs1 H1 s1 r1 p1 _ => ⟨d, tru_rp (rg_sub r1.exs) p1 qg, k Hs1 H1 s1 r1⟩
  · rcases bnd_ex q with q | ⟨d1, env1, q1, q⟩
    · exact h.exn r q k
    · exact (lift_ex q).elim
theorem st_tru {e : Expr} {te : TE} {f : M D} (hK : cf.K = X.K) (h : SE X cf W c n e te f) (he : ∀ whole, isTrue e X.env whole = (do let v ← whole; standAt e.pos; holding [v] (truthy v)) := by intro _; rfl) : ST X cf W e (tTru cf.K te) (tTr f) := ⟨hK ▸ pt_truth h.p he, sdt_tru h.s⟩
end
section
variable {e : PEnv} {fa fb : M D} {b : Bool} {i : Int} {ds : List D}
@[simp] theorem tru_b : tru (.bl b) = some b := (rfl)
@[simp] theorem tru_i : tru (.int i) = some (i != 0) := (rfl)
@[simp] theorem tru_l : tru (.lst ds) = some (!ds.isEmpty) := (rfl)
@[simp] theorem tru_t : tru (.tup ds) = some (!ds.isEmpty) := (rfl)
@[simp] theorem tru_n : tru .non = some false := (rfl)
@[simp] theorem r_tTr : tTr fa e = rb (fa e) fun x e => lift (tru x) e := (rfl)
@[simp] theorem r_eOrT : eOrT fa fb e = rb (fa e) fun x e => rb (lift (tru x) e) fun k e => if k then .ok x e else fb e := by
  show rb (fa e) _ = _
  congr 1; funext x e
  show rb _ _ = _
  congr 1; funext k e; cases k <;> rfl
end
theorem for_fold {σ α : Type} {tg : D → M Unit} {b : M Fl} {φ : α → D} (R : σ → PEnv → Prop) (f : σ → α → σ) : ∀ (l : List α) (s : σ) (e : PEnv), R s e →
    (∀ s x e, x ∈ l → R s e → ∃ e1 e2 fl, tg (φ x) e = .ok () e1 ∧ b e1 = .ok fl e2 ∧ (fl = .nx ∨ fl = .ct) ∧ R (f s x) e2) →
    ∃ e', sForL tg b (l.map φ) e = .ok .nx e' ∧ R (l.foldl f s) e'
  | [], s, e, h0, _ => ⟨e, rfl, h0⟩
  | x :: l, s, e, h0, hs => by
    obtain ⟨e1, e2, fl, h1, h2, h3, h4⟩ := hs s x e List.mem_cons_self h0
    obtain ⟨e', h5, h6⟩ := for_fold R f l (f s x) e2 h4 fun s y e hy => hs s y e (List.mem_cons_of_mem _ hy)
    refine ⟨e', ?_, h6⟩
    rw [List.map_cons, sForL, bnd_of_ok h1, bnd_of_ok h2]
    rcases h3 with rfl | rfl <;> exact h5
end MV
namespace MV
open PySem PySem.Spec PyProof.Rows L2
def gLR1 : D → Option D
  | .int j => if smallI j && decide (j.toNat ≤ LIM) then some (.lst (rngD 0 j.toNat)) else none
  | _ => none
def gLR2 : D → D → Option D
  | .int i, .int j => if smallI i && smallI j && decide ((j - i).toNat ≤ LIM) then some (.lst (rngD i (j - i).toNat)) else none
  | _, _ => none
section
variable {X : Cx} {cf : Cf} {W : WX} {c : Cls} {n n1 n2 : Bool}
end
section
variable {i j : Int}
@[simp] theorem gLR1_i : gLR1 (.int j) = if smallI j && decide (j.toNat ≤ LIM) then some (.lst (rngD 0 j.toNat)) else none := (rfl)
@[simp] theorem gLR2_i : gLR2 (.int i) (.int j) = if smallI i && smallI j && decide ((j - i).toNat ≤ LIM) then some (.lst (rngD i (j - i).toNat)) else none := (rfl)
end
end MV
namespace MV
open PySem PySem.Spec PyProof.Rows L2
def SndM (K : PySem.W.Frag) (n : Bool) (T : String) (r : V → List V → Hp → VK → Prop) (g : D → List D → Option D) : Prop := ∀ (G H : Hp) (x : V) (xs : List V) (d1 : D) (ds : List D) (d : D), Ex G H → Rp K true G x d1 → RpL K true G xs ds → g d1 ds = some d → ∀ Q : VK, (∀ v H', Ex H H' → Rp K true (grow G H H') v d → Nn K n H H' v d → Q v H') → r x xs H Q
def tyD : D → String
  | .lst _ => "list"
  | .str _ => "str"
  | _ => ""
def eM (T : String) (g : D → List D → Option D) (fo : M D) (fa : M (List D)) : M D := bnd fo fun x => if tyD x == T then bnd fa fun xs => lift (g x xs) else fail
theorem tyD_ok {K : PySem.W.Frag} {G H : Hp} {x : V} {d : D} {T : String} (e : Ex G H) (h : Rp K true G x d) (q : (tyD d == T) = true) (hT : T = "list" ∨ T = "str") : tyV K T x H := by
  have q := beq_iff_eq.mp q
  subst q
  cases d with
  | lst ds =>
    obtain ⟨a, xs, rfl, s1, r1⟩ := h.lst_inv
    exact .inl ⟨rfl, xs, ex_sql e s1.any⟩
  | str z => rw [h.str_inv]; exact (rfl : "str" = "str")
  | _ =>
    rcases hT with h | h
    · exact absurd h (show ¬ (("" : String) = "list") by decide)
    · exact absurd h (show ¬ (("" : String) = "str") by decide)
section
variable {X : Cx} {cf : Cf} {W : WX} {c : Cls} {n n1 n2 : Bool}
theorem sd_bm {T : String} {r : V → List V → Hp → VK → Prop} {g : D → List D → Option D} {to : TE} {ta : TA} {fo : M D} {fa : M (List D)} (hT : T = "list" ∨ T = "str") (hs : SndM cf.K n T r g) (ho : Sd cf W c n1 to fo) (ha : SdA cf W c ta fa) : Sd cf W c n (tBM cf.K T r to ta) (eM T g fo fa) := by
  refine Sd.mk (fun R Hs env σ H F wf r d env' q Q k => ?_) (fun R Hs env σ H F wf r x env' q Q k => ?_)
  · obtain ⟨d1, env1, q1, q⟩ := bnd_ok q
    cases z : tyD d1 == T with
    | false => rw [z] at q; cases q
    | true =>
      rw [z] at q
      obtain ⟨d2, env2, q2, q⟩ := bnd_ok q
      obtain ⟨qg, rfl⟩ := lift_ok q
      exact ho.ok r q1 fun v Hs1 H1 s1 r1 p1 _ => ⟨tyD_ok (rg_sub r1.exs) p1 z hT, ha.ok r1 q2 fun v2 Hs2 H2 s2 r2 p2 =>
        hs (rg c R.H0 Hs2 H H2 wf) H2 v v2 d1 d2 d (rg_sub r2.exs) (p1.mono (rg_step s2)) (p2.mono (rg_start s1.dom)) qg Q fun v3 H3 x p nn => fin_op (s1.trans s2) r2 x p nn k⟩
  · rcases bnd_ex q with q | ⟨d1, env1, q1, q⟩
    · exact ho.exn r q k
    · cases z : tyD d1 == T with
      | false => rw [z] at q; cases q
      | true =>
        rw [z] at q
        rcases bnd_ex q with q | ⟨d2, env2, q2, q⟩
        · exact ho.ok r q1 fun v Hs1 H1 s1 r1 p1 _ => ⟨tyD_ok (rg_sub r1.exs) p1 z hT, ha.exn r1 q fun Hs2 H2 s2 r2 => k Hs2 H2 (s1.trans s2) r2⟩
        · exact (lift_ex q).elim
end
def eqD (z y : D) : Bool := match z.toV, y.toV with
  | some a, some b => eqV a b
  | _, _ => false
def gIndex : D → List D → Option D
  | .lst ds, [y] => if y.sc && ds.all D.sc then (ds.findIdx? fun z => eqD z y).map fun j => .int (j : Nat) else none
  | _, _ => none
theorem scM {T : String} {g : D → List D → Option D} {fo : M D} {fa : M (List D)} (h : ∀ x xs d, g x xs = some d → d.sc = true) : ScF (eM T g fo fa) := fun env d env' q => by
  obtain ⟨d1, env1, q1, q⟩ := bnd_ok q
  cases z : tyD d1 == T with
  | false => rw [z] at q; cases q
  | true =>
    rw [z] at q
    obtain ⟨d2, env2, q2, q⟩ := bnd_ok q
    obtain ⟨qg, _⟩ := lift_ok q
    exact h _ _ _ qg
section
variable {X : Cx} {cf : Cf} {W : WX} {c : Cls} {n n1 n2 : Bool}
end
section
variable {e : PEnv} {fo : M D} {fa : M (List D)} {T : String} {g : D → List D → Option D} {ds : List D} {y : D}
@[simp] theorem r_eM : eM T g fo fa e = rb (fo e) fun x e => if tyD x == T then rb (fa e) fun xs e => lift (g x xs) e else .stuck := by
  show rb (fo e) _ = _
  congr 1; funext x e; cases tyD x == T <;> rfl
@[simp] theorem tyD_l : tyD (.lst ds) = "list" := (rfl)
@[simp] theorem gIndex_l : gIndex (.lst ds) [y] = if y.sc && ds.all D.sc then (ds.findIdx? fun z => eqD z y).map fun j => .int (j : Nat) else none := (rfl)
end
end MV
namespace MV
open PySem PySem.Spec PyProof.Rows L2
section
variable {K : PySem.W.Frag} {T H H' : Hp}
def NL (T : Hp) : Prop := ∀ a xs, T a ≠ some (.lst xs)
theorem Own.emp_lst (hT : NL T) {F : List Addr} {v : V} {ds : List D} (h : Own K T H F v (.lst ds)) : ∃ p F' xs, v = .ref p ∧ F = p :: F' ∧ H p = some (.lst xs) ∧ OwnL K T H F' xs ds := by
  cases h with
  | leaf h => obtain ⟨a, xs, _, h, _⟩ := h.lst_inv; exact (hT a xs h).elim
  | lst h r => exact ⟨_, _, _, rfl, rfl, h, r⟩
theorem Own.off {p : Addr} {o : HO} {F : List Addr} {v : V} {d : D} (h : Own K T H F v d) (hp : p ∉ F) : Own K T (upd H p o) F v d := h.keep (Ex.refl _) fun a m u e => by
  rw [upd_ne (fun z => hp (by rw [← z]; exact m))]; exact e
theorem OwnL.within (hT : NL T) : ∀ {F : List Addr} {xs : List V} {ds : List D}, OwnL K T H F xs ds → F.Nodup → ∀ (j : Nat) (es : List D), ds[j]? = some (.lst es) →
    ∃ q ys Fq, xs[j]? = some (.ref q) ∧ H q = some (.lst ys) ∧ q ∈ F ∧ OwnL K T H Fq ys es ∧ ∀ ys' es', (∀ H', (∀ a ∈ Fq, H' a = H a) → OwnL K T H' Fq ys' es') → OwnL K T (upd H q (.lst ys')) F xs (ds.set j (.lst es'))
  | _, _, _, .nil, _, j, es, h => by cases h
  | _, v :: vs, d :: ds, .cons (F := F1) (F' := F2) h r, nd, 0, es, hd => by
    cases Option.some.inj hd
    obtain ⟨q, Fq, ys, rfl, rfl, hq, ro⟩ := h.emp_lst hT
    have nd' := List.nodup_append.mp nd
    have nq : q ∉ Fq := (List.nodup_cons.mp nd'.1).1
    refine ⟨q, ys, Fq, rfl, hq, List.mem_append_left _ List.mem_cons_self, ro, fun ys' es' hn => ?_⟩
    exact .cons (.lst upd_same (hn _ fun a m => upd_ne (fun z => nq (by rw [← z]; exact m)))) (r.off fun m => nd'.2.2 q List.mem_cons_self q m rfl)
  | _, v :: vs, d :: ds, .cons (F := F1) (F' := F2) h r, nd, j + 1, es, hd => by
    have nd' := List.nodup_append.mp nd
    obtain ⟨q, ys, Fq, h1, h2, h3, h4, h5⟩ := OwnL.within hT r nd'.2.1 j es hd
    refine ⟨q, ys, Fq, h1, h2, List.mem_append_right _ h3, h4, fun ys' es' hn => ?_⟩
    exact .cons (h.off fun m => nd'.2.2 q m q h3 rfl) (h5 ys' es' hn)
end
section
variable {X : Cx} {cf : Cf} {W : WX} {c : Cls} {n n1 n2 : Bool}
def linL : List D → Bool
  | [] => true
  | d :: ds => if d.sc then linL ds else (match d with | .lst es => es.all D.sc | _ => false) && ds.all D.sc
def lin : D → Bool
  | .lst ds => ds.all D.sc
  | .tup ds => linL ds
  | d => d.sc
def sSetP (i : Nat) (f : M D) : M Fl := bnd f fun d => bnd (lift (if lin d then some d else none)) fun d => fun e => .ok .nx (e.set i (some d))
def putIn : D → Nat → List D → D
  | .tup ds, j, es => .tup (ds.set j (.lst es))
  | .lst ds, j, es => .lst (ds.set j (.lst es))
  | d, _, _ => d
end
section
variable {e : PEnv} {fi f : M D} {i : Nat} {ds es : List D}
@[simp] theorem r_sSetP : sSetP i f e = rb (f e) fun d e => if lin d then .ok .nx (e.set i (some d)) else .stuck := by
  show rb (f e) _ = _
  congr 1; funext d e; cases h : lin d <;> simp [h]
end
end MV
namespace MV
open PySem PySem.Spec PyProof.Rows L2
def eCallQ (F : List D → FR) (i : Nat) (a : M (List D)) : M D := fun e => match e[i]? with
  | some (some d0) => bnd a (fun ds => frD (F (d0 :: ds))) e
  | _ => .stuck
def eIxQ (i : Nat) (f : M D) : M D := fun e => match lstAt i e with
  | none => .stuck
  | some ds => bnd f (fun k => match k with
    | .int z => lift ((atI ds z).bind fun d => if d.sc then some d else none)
    | _ => fail) e
def eLenQ (i : Nat) : M D := fun e => match lstAt i e with
  | some ds => .ok (.int ds.length) e
  | none => .stuck
section
variable {X : Cx} {cf : Cf} {W : WX} {c : Cls} {n n1 n2 : Bool}
theorem sd_callQ {F : List D → FR} {m i : Nat} {ta : TA} {fa : M (List D)} (hk : cf.kd i = .Q) (h : SdA cf W .B ta fa) (hm : ∀ ds env env', fa env = .ok ds env' → ds.length + 1 = m) : Sd cf W .V true (tCallS (spQ cf.K cf.cv m F) (WE W) (tCons (tVar i) ta)) (eCallQ F i fa) := by
  have hnw : cf.kd i ≠ .W := by rw [hk]; exact fun z => by cases z
  refine Sd.mk (fun R Hs env σ H F0 wf r d env' q Q k => ?_) (fun R Hs env σ H F0 wf r x env' q Q k => ?_)
  · unfold eCallQ at q
    split at q
    · rename_i d0 q0
      obtain ⟨v, hv, _⟩ := r.slot i d0 q0
      refine ⟨v, hv, ?_⟩
      obtain ⟨ds, env1, q1, q2⟩ := bnd_ok q
      refine h.ok r q1 fun vs Hs1 H1 s1 r1 p1 => ?_
      have e1 : env1[i]? = some (some d0) := by rw [s1.kp i hnw]; exact q0
      obtain ⟨v1, hv1, hs1⟩ := r1.slot i d0 e1
      have ev : v1 = v := by rw [hv1] at hv; cases hv; rfl
      subst ev
      rw [hk] at hs1
      refine ⟨by rw [List.length_cons, p1.length]; exact hm _ _ _ q1, v1, vs, d0, ds, rfl, Rp.mono r1.exs hs1, p1.mono (rm_sub _ _), ?_⟩
      cases qf : F (d0 :: ds) with
      | ok d' io =>
        rw [qf] at q2
        cases q2
        intro v H' x pv
        have pv' : Rp cf.K true (rs (grow Hs1 H1 H') H) v d := pv.mono (nw_rs s1.dom)
        exact k v (grow Hs1 H1 H') H' (s1.trans (Stp.grow r1.exs x)) (r1.grow x) pv' fun _ _ => pv'
      | ex x io => rw [qf] at q2; cases q2
      | stuck => rw [qf] at q2; cases q2
    · cases q
  · unfold eCallQ at q
    split at q
    · rename_i d0 q0
      obtain ⟨v, hv, _⟩ := r.slot i d0 q0
      refine ⟨v, hv, ?_⟩
      rcases bnd_ex q with q | ⟨ds, env1, q1, q2⟩
      · exact h.exn r q k
      · refine h.ok r q1 fun vs Hs1 H1 s1 r1 p1 => ?_
        have e1 : env1[i]? = some (some d0) := by rw [s1.kp i hnw]; exact q0
        obtain ⟨v1, hv1, hs1⟩ := r1.slot i d0 e1
        have ev : v1 = v := by rw [hv1] at hv; cases hv; rfl
        subst ev
        rw [hk] at hs1
        refine ⟨by rw [List.length_cons, p1.length]; exact hm _ _ _ q1, v1, vs, d0, ds, rfl, Rp.mono r1.exs hs1, p1.mono (rm_sub _ _), ?_⟩
        cases qf : F (d0 :: ds) with
        | ok d' io => rw [qf] at q2; cases q2
        | ex x' io =>
          rw [qf] at q2
          cases q2
          intro H' x
          exact k (grow Hs1 H1 H') H' (s1.trans (Stp.grow r1.exs x)) (r1.grow x)
        | stuck => rw [qf] at q2; cases q2
    · cases q
theorem se_callQ {F : List D → FR} {m k i : Nat} {f : Addr} {fd : FuncData} {ps : List Str} {x : Str} {e : Expr} {es : List Expr} {ta : TA} {fa : M (List D)} {p pos : Pos} (hK : cf.K = X.K) (tk : L2N.Takes X W) (G : FnOk X.prog X.w X.K X.mg X.base (L2N.CX X.prog X.w) k f fd ps (spQ X.K cf.cv m F)) (hr : Room k X.A) (hg : Gl X x) (hm : X.mg x = some (.ref f)) (hkp : PySem.W.keepIn X.K (.ref f) = true) (hb : Binds X.K fd ps []) (hk : cf.kd i = .Q) (pe : PE X e (tVar i)) (ha : SA X cf W .B es ta fa) (hl : ∀ ds env env', fa env = .ok ds env' → ds.length + 1 = m)
    (hdb : (x == ("__debug__" : Str)) = false := by decide) (he : starEach (e :: es) X.env = (false, eval e X.env) :: starEach es X.env := by rfl) (hpl : (backTo pos (starEach es X.env)).any (·.1) = false := by rfl) :
    SE X cf W .V true (.Call (.Name x p) (e :: es) [] pos) (tCallS (spQ cf.K cf.cv m F) (WE W) (tCons (tVar i) ta)) (eCallQ F i fa) := by
  refine ⟨?_, sd_callQ hk ha.s hl⟩
  rw [hK]
  exact pe_callS G hr hg hm hkp hb (fun σ => L2N.passAt tk σ) (pa_cons pe ha.p he) hdb he hpl
theorem se_ixQ {i : Nat} {o ix : Expr} {ti : TE} {f : M D} {pos : Pos} (hK : cf.K = X.K) (po : PE X o (tVar i)) (hk : cf.kd i = .Q) (h : SE X cf W c n ix ti f) (hs : PlainIx ix) : SE X cf W .V true (.Subscript o ix pos) (tOp (rIx cf.K) (tVar i) ti) (eIxQ i f) := by
  have hnw : cf.kd i ≠ .W := by rw [hk]; exact fun z => by cases z
  rw [hK]
  refine ⟨pe_ix ix_seq po h.p hs, Sd.mk (fun R Hs env σ H F wf r d env' q Q k => ?_) (fun R Hs env σ H F wf r x env' q Q k => ?_)⟩
  · unfold eIxQ at q
    cases q0 : lstAt i env with
    | none => simp only [q0] at q; cases q
    | some ds =>
      simp only [q0] at q
      obtain ⟨p0, xs0, a1, a2, a3⟩ := q_list r hk q0
      refine ⟨.ref p0, a1, ?_⟩
      obtain ⟨kd, env1, q1, q2⟩ := bnd_ok q
      refine h.s.ok r q1 fun v Hs1 H1 s1 r1 p1 _ => ?_
      have q3 : lstAt i env1 = some ds := by
        unfold lstAt at q0 ⊢; rw [s1.kp i hnw]; exact q0
      obtain ⟨p, xs, h1, h2, h3⟩ := q_list r1 hk q3
      have ep : p = p0 := by rw [h1] at a1; cases a1; rfl
      subst ep
      cases kd with
      | int z =>
        obtain ⟨qg, rfl⟩ := lift_ok q2
        cases qa : atI ds z with
        | none => rw [qa] at qg; cases qg
        | some d' =>
          rw [qa] at qg
          have qg : (if d'.sc then some d' else none) = some d := qg
          split at qg
          · rename_i hsc
            cases qg
            obtain ⟨w, hw, hr⟩ := atI_rp h3 qa
            exact .inl ⟨p, xs, z, w, rfl, p1.int_inv, by rw [← hK]; exact h2, hw, k w Hs1 H1 s1 r1 (hr.sc_any hsc _ _) fun _ _ => hr.sc_any hsc _ _⟩
          · cases qg
      | _ => cases q2
  · unfold eIxQ at q
    cases q0 : lstAt i env with
    | none => simp only [q0] at q; cases q
    | some ds0 =>
      simp only [q0] at q
      obtain ⟨p0, xs0, a1, a2, a3⟩ := q_list r hk q0
      refine ⟨.ref p0, a1, ?_⟩
      rcases bnd_ex q with q | ⟨kd, env1, q1, q2⟩
      · exact h.s.exn r q k
      · cases kd with
        | int z => exact (lift_ex q2).elim
        | _ => cases q2
theorem se_lenQ {i : Nat} {o : Expr} {p pos : Pos} (hK : cf.K = X.K) (hm : X.mg "len" = none) (po : PE X o (tVar i)) (hk : cf.kd i = .Q) (hg : Gl X "len" := by rfl) (he : starEach [o] X.env = (false, eval o X.env) :: starEach [] X.env := by rfl) (hpl : (backTo pos (starEach [] X.env)).any (·.1) = false := by rfl) :
    SE X cf W .V true (.Call (.Name "len" p) [o] [] pos) (tCB (fun xs H Q => ∃ x n, xs = [x] ∧ LenV cf.K x H n ∧ Q (.int n) H) (tCons (tVar i) tNil)) (eLenQ i) := by
  rw [hK]
  refine ⟨pe_callB call_len hg hm PySem.boot_len (pa_cons po pa_nil he) (by decide) (by decide) he hpl, Sd.mk (fun R Hs env σ H F wf r d env' q Q k => ?_) (fun R Hs env σ H F wf r x env' q Q k => ?_)⟩
  · unfold eLenQ at q
    split at q
    · rename_i ds q0
      cases q
      obtain ⟨p0, xs0, a1, a2, a3⟩ := q_list r hk q0
      refine ⟨.ref p0, a1, .ref p0, xs0.length, rfl, .inl ⟨xs0, by rw [← hK]; exact a2, rfl⟩, ?_⟩
      rw [a3.length]
      exact k _ Hs H Stp.refl r (.int _) fun _ _ => .int _
    · cases q
  · unfold eLenQ at q
    split at q <;> cases q
end
section
variable {P : Program} {w : World} {K : PySem.W.Frag} {mg : Str → Option Value} {base : Heap}
theorem fn_Q {x qual : Str} {st : Stmt} {f : Addr} {fd : FuncData} (N ps : List Str) (mN mP : Nat) {k : Nat} (cf : Cf) (g : M Fl) (hN : N.length = mN) (hP : ps.length = mP) (F : Fun K x qual st f fd) (S : FnScope N ps (defScope st)) (hK : cf.K = K) (h0 : cf.kd 0 = .Q) (hk : ∀ i, 0 < i → i < ps.length → cf.kd i = .S)
    (hbody : ∀ (cdv : Value) (A : Around) (outer : List Env) (s : Shared) (H : Hp) (E : XK), Room k (A.deeper (envOfC qual (defScope st) s.heap.objs.size f cdv)) → L2N.Takes (cxOf (L2N.CX P w) P w K mg base N qual (defScope st) f cdv A outer s H E) (fun cls d _ H => E cls d H) →
      PassesOwn (model P w) (A.deeper (envOfC qual (defScope st) s.heap.objs.size f cdv)) (envOfC qual (defScope st) s.heap.objs.size f cdv) (cxOf (L2N.CX P w) P w K mg base N qual (defScope st) f cdv A outer s H E).xe →
      SSs (cxOf (L2N.CX P w) P w K mg base N qual (defScope st) f cdv A outer s H E) cf (fun cls d _ H => E cls d H) (defBody st) g) :
    FnOk P w K mg base (L2N.CX P w) (k + 1) f fd ps (spQ K cf.cv mP (runF mN g)) := by
  subst hN hP
  refine okN F S (fun vs H Q E h => h.1) (fun cdv A outer s H vs Q E hr h => ?_)
  obtain ⟨hl, v0, vs', d0, ds, rfl, hd0, hd, h⟩ := h
  obtain ⟨t, p, sd⟩ := hbody cdv A outer s H E hr (L2N.takes_of rfl rfl rfl rfl) (passes_of rfl)
  refine ⟨t, p, ?_⟩
  have r : Rel cf ⟨H, none⟩ H (envOf N.length (d0 :: ds)) (L2.start N (v0 :: vs')) H (fun _ => []) [] :=
    { len := env_len (by rw [List.length_cons, List.length_cons, hd.length])
      exs := Ex.refl _
      ex0 := fun a o h _ => h
      dom0 := fun a h => h
      slot := fun i d q => by
        have q := envOf_get q
        cases i with
        | zero =>
          have q : d0 = d := by simpa using q
          subst q
          refine ⟨v0, start_get rfl, ?_⟩
          rw [h0, hK]
          exact hd0
        | succ i =>
          have q : ds[i]? = some d := by simpa using q
          obtain ⟨v, h1, h2⟩ := hd.get q
          refine ⟨v, start_get (by simpa using h1), ?_⟩
          rw [hk (i + 1) (by omega) (by rw [← hl, List.length_cons, hd.length]; have := (List.getElem?_eq_some_iff.mp q).1; omega), hK]
          exact h2
      nod := fun _ => List.nodup_nil
      dis := fun _ _ _ _ m => by cases m
      fdom := fun _ _ m => by cases m
      uns := fun _ _ m => by cases m
      new := fun _ _ m => by cases m
      volw := fun _ _ _ m => by cases m
      volb := fun _ _ _ m => by cases m
      wdom := fun _ m => by cases m
      ior := fun p h => by cases h }
  refine sd _ _ _ _ _ _ _ r _ ?_
  unfold runF at h
  have exH : ∀ {Hs' H' : Hp} {env' : PEnv} {σ' : L2.St} {F' : Nat → List Addr} {wf' : List Addr}, Rel cf ⟨H, none⟩ Hs' env' σ' H' F' wf' → Ex H H' := fun r' a o ha => r'.exs a o (r'.ex0 a o ha (fun z => by cases z))
  cases q : g (envOf N.length (d0 :: ds)) with
  | stuck => rw [q] at h; exact h.elim
  | ex c e =>
    rw [q] at h
    exact fun Hs' σ' H' F' wf' _ r' => h H' (exH r')
  | ok fl e =>
    rw [q] at h
    cases fl with
    | nx => exact fun Hs' σ' H' F' wf' _ r' => h .non H' (exH r') .non
    | rt d => exact fun v Hs' σ' H' F' wf' _ r' pv => h v H' (exH r') (by
        rw [← hK]
        exact pv.mono fun a o ha => by
          have ha : rs (rm H' wf') H a = some o := ha
          cases z : H a with
          | none => rw [rs_none z] at ha; rw [nw_none z]; exact rm_sub _ _ a o ha
          | some u => rw [rs_some z] at ha; cases ha)
    | bk => exact h.elim
    | ct => exact h.elim
end
section
variable {e : PEnv} {f : M D} {i : Nat} {r : M (List D)}
def someO (o : Option (Option D)) : Option D := match o with
  | some (some d) => some d
  | _ => none
@[simp] theorem someO_some {d : D} : someO (some (some d)) = some d := (rfl)
@[simp] theorem r_eCallQ {F : List D → FR} : eCallQ F i r e = ro (someO (e[i]?)) fun d0 => rb (r e) fun ds e => frR (F (d0 :: ds)) (fun d _ => .ok d e) fun x _ => .ex x e := by
  unfold eCallQ someO
  cases e[i]? with
  | none => rfl
  | some o => cases o <;> rfl
@[simp] theorem r_eIxQ : eIxQ i f e = ro (lstO (e[i]?)) fun ds => rb (f e) fun k e => ro (asInt k) fun z => ro (L2.atI ds z) fun d => if d.sc then .ok d e else .stuck := by
  unfold eIxQ
  show _ = ro (lstAt i e) _
  cases lstAt i e with
  | none => rfl
  | some ds =>
    show rb (f e) _ = _
    simp only [ro_some]
    congr 1; funext k e
    cases k <;> first | rfl | (simp only [asInt_int, ro_some]; cases h : L2.atI ds _ with | none => rfl | some d => cases h2 : d.sc <;> simp [h2])
@[simp] theorem r_eLenQ : eLenQ i e = ro (lstO (e[i]?)) fun ds => .ok (.int ds.length) e := by
  unfold eLenQ
  show _ = ro (lstAt i e) _
  cases lstAt i e <;> rfl
end
end MV
namespace MV
open PySem PySem.Spec PyProof.Rows L2
section
variable {X : Cx} {pp : List (Addr × Obj)} {σ : L2.St} {H : Hp} {s : Shared}
theorem exH_ok {P : Program} {w : World} {G : Hp} {h : Heap} {a : Addr} {cls : Value} {oe : Obj} {fs : Array Value} (e : h.get? a = some oe) (h1 : oe.cls = cls) (h2 : oe.dict = none) (h3 : oe.data = .fields fs) : ObjOk P w G h a (ExH cls a) :=
  ⟨⟨oe, fs, e, h1, h2, h3⟩, ⟨oe, e⟩, fun _ _ ⟨o, v, q, z⟩ k => ⟨o, v, k o q, z⟩⟩
theorem track_inv {a : Addr} {cls : Value} {oe : Obj} {fs : Array Value} (I : Inv X pp σ H s) (e : s.heap.get? a = some oe) (na : H a = none) (nl : a ≠ X.env.locals) (h1 : oe.cls = cls) (h2 : oe.dict = none) (h3 : oe.data = .fields fs)
    (n0 : X.s_0.heap.get? a = none) (np : ∀ p ∈ X.pn ++ pp, p.1 ≠ a) : Inv X pp σ (upd H a (ExH cls a)) s := by
  have nn : ∀ b u, H b = some u → b ≠ a := fun b u q z => by rw [z, na] at q; cases q
  have n0' : ∀ b u, X.s_0.heap.get? b = some u → b ≠ a := fun b u q z => by rw [z, n0] at q; cases q
  have nc : ∀ x c, X.env.cells.lookup x = some c → c ≠ a := fun x c q z => by
    obtain ⟨v, o, ho, hd⟩ := I.cell x c q
    rw [z, e] at ho
    cases ho
    rw [h3] at hd
    cases hd
  have B := I.base
  refine { ok := I.ok, os := I.os, bare := I.bare, loc := I.loc, cell := I.cell, len := I.len, base := ?_, free := ?_, freeC := ?_, pin := ?_, hok := ?_ }
  · refine ⟨B.keep, B.slot, ?_, B.there, ?_, ?_, ?_⟩
    · intro b u q n hx
      rw [upd_ne (n0' b u q)]
      exact B.free b u q n hx
    · intro b xs q
      have z := B.tups b xs q
      rw [upd_ne (nn _ _ z)]; exact z
    · intro b o u q
      have z := B.frzs b o u q
      rw [upd_ne (nn _ _ z)]; exact z
    · intro b ps q
      obtain ⟨m, z⟩ := B.tbls b ps q
      exact ⟨m, by rw [upd_ne (nn _ _ z)]; exact z⟩
  · rw [upd_ne (Ne.symm nl)]; exact I.free
  · intro x c q
    rw [upd_ne (nc x c q)]; exact I.freeC x c q
  · intro p hp
    obtain ⟨z1, z2, z3⟩ := I.pin p hp
    exact ⟨z1, by rw [upd_ne (np p hp)]; exact z2, z3⟩
  · exact I.hok.laidN (fun _ _ q => q) na (exH_ok e h1 h2 h3)
end
section
variable {X : Cx} {x n : Str} {c : Value} {i : Nat} {body suite : List Stmt} {b₀ : Stmt} {np pos pos' : Pos} {tb : WX → TS} {ts : Addr → Value → TS} {Wo : WX}
end
abbrev veMro : List Value := [.type "ValueError", .type "Exception", .type "BaseException", .type "object"]
structure XCls (K : PySem.W.Frag) (mg : Str → Option Value) (c : Str) (C : Addr) : Prop where
  n : PySem.W.nsIn K mainGlobals c = some (some (.ref C))
  g : mg c = some (.ref C)
  x : PySem.W.excIn K C veMro "ValueError.__new__" = true
  k : PySem.W.keepIn K (.ref C) = true
  b : PySem.W.subIn K (.ref C) (.type "BaseException") = some true
  t : PySem.W.typeIn K (.ref C) = some (.type "type")
  d : PySem.W.hasDictIn K C = true
  s : PySem.W.subIn K (.ref C) (.ref C) = some true
theorem XCls.cv {K : PySem.W.Frag} {mg : Str → Option Value} {c : Str} {C : Addr} (h : XCls K mg c C) : cvK K c = .ref C := by unfold cvK; rw [h.n]
theorem kit_own {K : PySem.W.Frag} {D C : Addr} {b : Bool} (hd : PySem.W.hasDictIn K C = true) (ht : PySem.W.typeIn K (.ref C) = some (.type "type")) (hs : PySem.W.subIn K (.ref C) (.ref C) = some true) (h : PySem.W.subIn K (.ref D) (.ref C) = some b) : PySem.W.kitOne K (.ref D) (.ref C) = some b := by
  unfold PySem.W.kitOne
  by_cases e : ((Value.ref D : Value) == .ref C) = true
  · rw [if_pos e]
    have e' := Value.ref.inj (beq_iff_eq.mp e)
    subst e'
    exact hs.symm.trans h
  · rw [if_neg e]
    obtain ⟨cd, hc, _⟩ := PySem.W.any_some hd
    show (if ((PySem.W.clsIn K C).isSome && PySem.W.typeIn K (.ref C) == some (.type "type")) = true then PySem.W.subIn K (.ref D) (.ref C) else none) = _
    rw [if_pos (by rw [hc, ht]; rfl), h]
theorem kit_blt {K : PySem.W.Frag} {D : Addr} {T : String} {b : Bool} (hm : PySem.W.kitMeta T = true) (h : PySem.W.subIn K (.ref D) (.type T) = some b) : PySem.W.kitOne K (.ref D) (.type T) = some b := by
  unfold PySem.W.kitOne
  rw [if_neg (by intro z; exact nomatch beq_iff_eq.mp z)]
  show (if PySem.W.kitMeta T = true then PySem.W.subIn K (.ref D) (.type T) else none) = _
  rw [if_pos hm, h]
theorem exm_cv {K : PySem.W.Frag} {mg : Str → Option Value} {c x : Str} {C CE : Addr} (h : XCls K mg c C) (hx : XCls K mg x CE) (s : PySem.W.subIn K (.ref C) (.ref CE) = some true) : PySem.W.exmOne K (cvK K c) (.ref CE) = some true := by
  rw [h.cv]
  exact PySem.W.exm_ref hx.b hx.d hx.t s
def sRaise (c : Str) : M Fl := fun e => .ex c e
section
variable {X : Cx} {cf : Cf} {W : WX}
theorem ss_raise {x m : Str} {C : Addr} {j : Nat} {p p2 pos pos' : Pos} (hK : cf.K = X.K) (hcv : cf.cv = cvK cf.K) (hc : X.calm = true) (tk : L2N.Takes X W) (T : XCls X.K X.mg x C) (hg : Gl X x := by rfl) (hdb : (x == ("__debug__" : Str)) = false := by decide) :
    SS X cf W (.Raise (some (.Call (.Name x p) [.Constant (.str m) j p2] [] pos')) none pos) (sRaise x) :=
  ⟨_, L2N.ps_raise hc tk (L2N.pmk_own PySem.F.excBase_ValueError T.x T.g T.k (raises_own T.b T.t) hg hdb), fun R Hs env σ H F wf r D hp => by
    have := hp Hs σ H F wf (Ex.refl _) r
    rw [hcv, hK, T.cv] at this
    exact this⟩
def sTryK (cs : List Str) (i j : Nat) (b : M Fl) : M Fl := fun e => match b e with
  | .ex c e' => if c ∈ cs ∧ j < e'.length then .ok .nx ((e'.set i (some (.exc c))).set j none) else .stuck
  | r => r
theorem Rel.unset {R : Rs} {Hs : Hp} {env : PEnv} {σ : L2.St} {H : Hp} {F : Nat → List Addr} {wf : List Addr} (r : Rel cf R Hs env σ H F wf) {j : Nat} (hw : cf.kd j ≠ .W) : Rel cf R Hs (env.set j none) (σ.set j none) H F wf where
  len := by rw [List.length_set, List.length_set]; exact r.len
  exs := r.exs
  ex0 := r.ex0
  dom0 := r.dom0
  slot := fun i d h => by
    rcases get_set h with ⟨rfl, e, hl⟩ | ⟨ne, h⟩
    · cases e
    · obtain ⟨w, h1, h2⟩ := r.slot i d h
      exact ⟨w, by rw [List.getElem?_set_ne ne]; exact h1, h2⟩
  nod := r.nod
  dis := r.dis
  fdom := r.fdom
  uns := r.uns
  new := r.new
  volw := r.volw
  volb := r.volb
  wdom := r.wdom
  ior := fun p h => by
    obtain ⟨h1, h2, h3, d', h4⟩ := r.ior p h
    have ne : j ≠ 0 := fun e => by subst e; exact hw h3
    exact ⟨by rw [List.getElem?_set_ne ne]; exact h1, h2, h3, d', by rw [List.getElem?_set_ne ne]; exact h4⟩
def tryT (X : Cx) (body : List Stmt) (W : WX) : TS := fun D σ H => ∀ (pn : List (Addr × Obj)) (xe : Value → Shared → Prop), L2N.Takes (X.tr pn xe) W → PassesOwn (model X.prog X.w) X.A X.env xe → ∃ t, PSs (X.tr pn xe) body t ∧ t D σ H
theorem tryT_ps {body : List Stmt} (W : WX) (pn : List (Addr × Obj)) (xe : Value → Shared → Prop) (tk : L2N.Takes (X.tr pn xe) W) (pw : PassesOwn (model X.prog X.w) X.A X.env xe) : PSs (X.tr pn xe) body (tryT X body W) := by
  constructor
  intro pp s σ H D I h
  obtain ⟨t, p, ht⟩ := h pn xe tk pw
  exact p.run pp s σ H D I ht
theorem tryT_sd {body : List Stmt} {fb : M Fl} {W' : WX} (hb : ∀ (W : WX) (pn : List (Addr × Obj)) (xe : Value → Shared → Prop), L2N.Takes (X.tr pn xe) W → PassesOwn (model X.prog X.w) X.A X.env xe → SSs (X.tr pn xe) cf W body fb)
    {R : Rs} {Hs : Hp} {env : PEnv} {σ : L2.St} {H : Hp} {F : Nat → List Addr} {wf : List Addr} (r : Rel cf R Hs env σ H F wf) {D : Ends} (hp : Post cf W' R Hs D (fb env)) : tryT X body W' D σ H := fun pn xe tk pw => by
  obtain ⟨t, p, sd⟩ := hb W' pn xe tk pw
  exact ⟨t, p, sd R Hs env σ H F wf r D hp⟩
end
end MV
namespace MV
open PySem PySem.Spec PyProof.Rows L2
def excSub (c T : Str) : Bool := c == T || T == (Str.ofString "CoverError") || T == (Str.ofString "ValueError")
def gIsX (cs : List Str) (T : Str) : D → Option D
  | .exc c => if c ∈ cs then some (.bl (excSub c T)) else none
  | _ => none
def gIsXT (cs Ts : List Str) : D → Option D
  | .exc c => if c ∈ cs then some (.bl (Ts.any (excSub c))) else none
  | _ => none
def rIsX (K : PySem.W.Frag) : List V → Hp → VK → Prop := fun xs H Q => ∃ (a : Addr) (c : V) (u : Value) (C : Addr) (b : Bool), xs = [.ref a, c] ∧ ClsV c u ∧ H a = some (ExH (.ref C) a) ∧ ExcC K C ∧ PySem.W.kitOne K (.ref C) u = some b ∧ Q (.bl b) H
section
variable {X : Cx} {cf : Cf} {W : WX} {c ca : Cls} {n n1 : Bool} {a : Expr} {ta : TE} {fa : M D} {pos : Pos}
theorem inst_of {pp : List (Addr × Obj)} {σ : L2.St} {H : Hp} {s : Shared} {a C : Addr} (I : Inv X pp σ H s) (h : H a = some (ExH (.ref C) a)) : ∃ ox, PySem.W.InstAt s.heap a ox C none := by
  obtain ⟨⟨oe, fs, h1, h2, h3, h4⟩, _⟩ := I.hok a _ h
  obtain ⟨oc, od, oda, osl⟩ := oe
  dsimp only at h2 h3 h4
  subst h2 h3 h4
  exact ⟨_, h1, rfl, rfl, trivial⟩
theorem call_isX : CallR X (.builtin "isinstance") (rIsX X.K) := by
  intro pp s σ H xs us Q I r h
  obtain ⟨a, c, u, C, b, rfl, k, ha, ex, e, q⟩ := h
  obtain ⟨u1, u2, rfl, r1, r2⟩ := vals2 r
  have e2 := k.eq r2
  subst e2
  cases (show u1 = Value.ref a from r1)
  obtain ⟨ox, J⟩ := inst_of I ha
  exact PySem.W.kia_one (PySem.W.handS_kitx_exc ex.hg ex.hk ex.hs ex.hd ex.ha ex.hn ex.ht ex.hm) I.kIn J e (fun z => nomatch z) fun tk => ⟨.bl b, H, I.tok tk, rfl, q⟩
theorem Rp.exc_inv {K : PySem.W.Frag} {x : Bool} {G : Hp} {v : V} {c : Str} (h : Rp K x G v (.exc c)) : ∃ a, v = .ref a ∧ G a = some (ExH (cvK K c) a) := by
  cases h with
  | sc h => cases h
  | exc h => exact ⟨_, rfl, h⟩
theorem se_isX {cs : List Str} {T : Str} {b : Expr} {vT : V} {uT : Value} {p : Pos} (hK : cf.K = X.K) (hm : X.mg "isinstance" = none) (hv : ClsV vT uT) (hT : ∀ c ∈ cs, ∃ C, cvK X.K c = .ref C ∧ ExcC X.K C ∧ PySem.W.kitOne X.K (.ref C) uT = some (excSub c T)) (ha : SE X cf W ca n1 a ta fa) (pT : PE X b (tC vT)) (hg : Gl X "isinstance" := by rfl)
    (he : starEach [a, b] X.env = (false, eval a X.env) :: starEach [b] X.env := by rfl) (he2 : starEach [b] X.env = (false, eval b X.env) :: starEach [] X.env := by rfl) (hpl : (backTo pos (starEach [b] X.env)).any (·.1) = false := by rfl) :
    SE X cf W .V true (.Call (.Name "isinstance" p) [a, b] [] pos) (tCB (rIsX cf.K) (tCons ta (tCons (tC vT) tNil))) (e1 (gIsX cs T) fa) := by
  rw [hK]
  refine SE.low (c := .B) (n := true) ⟨pe_callB call_isX hg hm (by decide +kernel) (pa_cons ha.p (pa_cons pT pa_nil he2) he) (by decide) (by decide) he hpl, ?_⟩ (e1_sc fun x d h => by
    unfold gIsX at h
    split at h
    · split at h <;> cases h; rfl
    · cases h)
  refine Sd.mk (fun R Hs env σ H F wf r d env' q Q k => ?_) (fun R Hs env σ H F wf r x env' q Q k => ?_)
  · obtain ⟨d1, env1, q1, q2⟩ := bnd_ok q
    obtain ⟨qg, rfl⟩ := lift_ok q2
    refine ha.b.s.ok r q1 fun v Hs1 H1 s1 r1 p1 _ => ?_
    unfold gIsX at qg
    split at qg
    · split at qg
      · cases qg
        rename_i c _ hc
        obtain ⟨av, rfl, hav⟩ := p1.exc_inv
        obtain ⟨C, t1, t2, t3⟩ := hT c hc
        refine ⟨av, vT, uT, C, excSub c T, rfl, hv, ?_, t2, t3, k _ Hs1 H1 s1 r1 (.bl _) fun _ _ => .bl _⟩
        rw [← t1, ← hK]
        exact rm_sub H1 wf av _ hav
      · cases qg
    · cases qg
  · rcases bnd_ex q with q | ⟨d1, env1, q1, q2⟩
    · exact ha.b.s.exn r q k
    · exact (lift_ex q2).elim
end
section
variable {e : PEnv} {b : M Fl} {f : M D} {i j : Nat} {cs Ts : List Str} {c T : Str}
@[simp] theorem r_sRaise : sRaise c e = .ex c e := (rfl)
def tryR (cs : List Str) (i j : Nat) (r : Res Fl) : Res Fl := match r with
  | .ex c e' => if c ∈ cs ∧ j < e'.length then .ok .nx ((e'.set i (some (.exc c))).set j none) else .stuck
  | r => r
@[simp] theorem tryR_ok {f : Fl} : tryR cs i j (.ok f e) = .ok f e := (rfl)
@[simp] theorem tryR_ex : tryR cs i j (.ex c e) = if c ∈ cs ∧ j < e.length then .ok .nx ((e.set i (some (.exc c))).set j none) else .stuck := (rfl)
@[simp] theorem r_sTryK : sTryK cs i j b e = tryR cs i j (b e) := (rfl)
@[simp] theorem gIsX_x : gIsX cs T (.exc c) = if c ∈ cs then some (.bl (excSub c T)) else none := (rfl)
@[simp] theorem gIsXT_x : gIsXT cs Ts (.exc c) = if c ∈ cs then some (.bl (Ts.any (excSub c))) else none := (rfl)
end
end MV
namespace MV
open PySem PySem.Spec PyProof.Rows L2
def gCount : D → List D → Option D
  | .lst ds, [y] => if y.sc && ds.all D.sc then some (.int (ds.countP fun z => eqD z y : Nat)) else none
  | _, _ => none
def gAny : List D → Option D
  | [.lst ds] => if ds.all fun x => (asB x).isSome then some (.bl (ds.any fun x => asB x == some true)) else none
  | _ => none
def gIsiT (Ts : List String) (d : D) : Option D := match d.ty with
  | some a => some (.bl (Ts.any (isiB a)))
  | none => none
section
variable {X : Cx} {cf : Cf} {W : WX} {c ca : Cls} {n n1 n2 : Bool}
end
section
variable {e : PEnv} {f : M D} {r : M (List D)} {tg : D → M Unit} {i j : Nat}
@[simp] theorem r_sUnp : sUnp f tg e = rb (f e) fun d e => rb (tg d e) fun _ e => .ok .nx e := (rfl)
end
section
variable {ds : List D} {y : D} {Ts : List String} {i : Int} {x : Str} {b : Bool}
@[simp] theorem gCount_l : gCount (.lst ds) [y] = if y.sc && ds.all D.sc then some (.int (ds.countP fun z => eqD z y : Nat)) else none := (rfl)
@[simp] theorem gAny_l : gAny [.lst ds] = if ds.all fun x => (asB x).isSome then some (.bl (ds.any fun x => asB x == some true)) else none := (rfl)
@[simp] theorem gIsiT_i : gIsiT Ts (.int i) = some (.bl (Ts.any (isiB "int"))) := (rfl)
@[simp] theorem gIsiT_s : gIsiT Ts (.str x) = some (.bl (Ts.any (isiB "str"))) := (rfl)
@[simp] theorem gIsiT_b : gIsiT Ts (.bl b) = some (.bl (Ts.any (isiB "bool"))) := (rfl)
@[simp] theorem gIsiT_l : gIsiT Ts (.lst ds) = some (.bl (Ts.any (isiB "list"))) := (rfl)
@[simp] theorem gIsiT_t : gIsiT Ts (.tup ds) = some (.bl (Ts.any (isiB "tuple"))) := (rfl)
@[simp] theorem gIsiT_n : gIsiT Ts .non = some (.bl (Ts.any (isiB "NoneType"))) := (rfl)
end
end MV
namespace MV
open PySem PySem.Spec PyProof.Rows L2
def ePopW (i : Nat) (f : M D) : M D := fun e => match lstAt i e with
  | none => .stuck
  | some _ => bnd f (fun k => fun e => match lstAt i e, k with
    | some ds, .int z => match ixN ds.length z with
      | some j => match ds[j]? with
        | some d => if ds.length ≤ LIM then .ok d (e.set i (some (.lst (ds.eraseIdx j)))) else .stuck
        | none => .stuck
      | none => .stuck
    | _, _ => .stuck) e
def eLenW (i : Nat) : M D := fun e => match lstAt i e with
  | some ds => .ok (.int ds.length) e
  | none => .stuck
def sRetW (i : Nat) : M Fl := fun e => match lstAt i e with
  | some ds => .ok (.rt (.lst ds)) (e.set i none)
  | none => .stuck
theorem RpL.eraseIdx {K : PySem.W.Frag} {x : Bool} {G : Hp} : ∀ {xs : List V} {ds : List D} (j : Nat), RpL K x G xs ds → RpL K x G (xs.eraseIdx j) (ds.eraseIdx j)
  | _, _, j, .nil => by simp; exact .nil
  | _, _, 0, .cons h r => r
  | _, _, j + 1, .cons h r => .cons h (RpL.eraseIdx j r)
section
variable {X : Cx} {cf : Cf} {W : WX} {c : Cls} {n n1 n2 : Bool}
end
section
variable {e : PEnv} {f : M D} {i : Nat} {z : Str}
@[simp] theorem r_ePopW : ePopW i f e = ro (lstO (e[i]?)) fun _ => rb (f e) fun k e => ro (lstO (e[i]?)) fun ds => ro (asInt k) fun z => ro (L2.ixN ds.length z) fun j => ro (ds[j]?) fun d => if ds.length ≤ LIM then .ok d (e.set i (some (.lst (ds.eraseIdx j)))) else .stuck := by
  unfold ePopW
  show _ = ro (lstAt i e) _
  cases lstAt i e with
  | none => rfl
  | some ds =>
    show rb (f e) _ = _
    simp only [ro_some]
    congr 1; funext k e
    show _ = ro (lstAt i e) _
    cases lstAt i e with
    | none => rfl
    | some ds =>
      simp only [ro_some]
      cases k <;> first | rfl | (simp only [asInt_int, ro_some]; cases L2.ixN ds.length _ with | none => rfl | some j => (simp only [ro_some]; cases ds[j]? <;> rfl))
@[simp] theorem r_eLenW : eLenW i e = ro (lstO (e[i]?)) fun ds => .ok (.int ds.length) e := by
  unfold eLenW
  show _ = ro (lstAt i e) _
  cases lstAt i e <;> rfl
@[simp] theorem r_sRetW : sRetW i e = ro (lstO (e[i]?)) fun ds => .ok (.rt (.lst ds)) (e.set i none) := by
  unfold sRetW
  show _ = ro (lstAt i e) _
  cases lstAt i e <;> rfl
@[simp] theorem gList1_s : gList1 [.str z] = if z.length ≤ LIM then some (.lst (chD z)) else none := (rfl)
end
end MV
namespace MV
open PySem PySem.Spec PyProof.Rows L2
def SdOw (cf : Cf) (W : WX) (te : TE) (f : M D) : Prop :=
  ∀ (R : Rs) (Hs : Hp) (env : PEnv) (σ : L2.St) (H : Hp) (F : Nat → List Addr) (wf : List Addr), Rel cf R Hs env σ H F wf → ∀ Q : VK,
    match f env with
    | .ok d env' => (∀ v Hs' H' G, Stp cf wf env Hs H env' Hs' H' → Rel cf R Hs' env' σ H' F wf → Own cf.K (TH (rs (rm Hs' G) H)) H' G v d → G.Nodup → (∀ a ∈ G, H a = none ∧ H' a ≠ none) → Q v H') → te σ H Q
    | .ex x env' => (∀ Hs' H', Stp cf wf env Hs H env' Hs' H' → Rel cf R Hs' env' σ H' F wf → W (cf.cv x) none σ H') → te σ H Q
    | .stuck => True
def SdAw (cf : Cf) (W : WX) (ta : TA) (f : M (List D)) : Prop :=
  ∀ (R : Rs) (Hs : Hp) (env : PEnv) (σ : L2.St) (H : Hp) (F : Nat → List Addr) (wf : List Addr), Rel cf R Hs env σ H F wf → ∀ Q : List V → Hp → Prop,
    match f env with
    | .ok ds env' => (∀ vs Hs' H' G, Stp cf wf env Hs H env' Hs' H' → Rel cf R Hs' env' σ H' F wf → OwnL cf.K emp H' G vs ds → G.Nodup → (∀ a ∈ G, H a = none ∧ H' a ≠ none) → Q vs H') → ta σ H Q
    | .ex x env' => (∀ Hs' H', Stp cf wf env Hs H env' Hs' H' → Rel cf R Hs' env' σ H' F wf → W (cf.cv x) none σ H') → ta σ H Q
    | .stuck => True
structure SEO (X : Cx) (cf : Cf) (W : WX) (e : Expr) (t : TE) (f : M D) : Prop where
  p : PE X e t
  s : SdOw cf W t f
structure SAO (X : Cx) (cf : Cf) (W : WX) (es : List Expr) (t : TA) (f : M (List D)) : Prop where
  p : PA X es t
  s : SdAw cf W t f
section
variable {X : Cx} {cf : Cf} {W : WX} {c : Cls} {n n1 n2 : Bool} {i : Nat}
def gLstO (ds : List D) : Option D := if ds.length ≤ LIM then some (.lst ds) else none
def gTupO (ds : List D) : Option D := if ds.length ≤ LIM then some (.tup ds) else none
end
section
variable {ds : List D}
@[simp] theorem gLstO_ : gLstO ds = if ds.length ≤ LIM then some (.lst ds) else none := (rfl)
@[simp] theorem gTupO_ : gTupO ds = if ds.length ≤ LIM then some (.tup ds) else none := (rfl)
end
end MV
namespace MV
open PySem PySem.Spec PyProof.Rows L2
section
variable {X : Cx} {cf : Cf} {W : WX}
end
end MV
namespace MV
open PySem PySem.Spec PyProof.Rows L2
section
variable {P : Program} {w : World} {A : Around} {E : Value → Shared → Prop} {s : Shared}
set_option maxHeartbeats 8000000 in
theorem call_set_lstI {l : Addr} {items : Array Value} (ns : List Int) {Q : Value → Shared → Prop} (hh : A.handled = none) (hl : s.heap.IsList l items) (hit : IntsAre items.toList ns) (hb : ns.length + 1 < scanBound)
    (h : ∀ (h' : Heap) (tk c : Nat), SetR w h' s.heap.objs.size (fun j => decide (j ∈ ns)) c → c ≤ ns.length → (∀ b o, s.heap.get? b = some o → h'.get? b = some o) → Q (.ref s.heap.objs.size) { s with heap := h', toks := tk }) :
    wpAny (model P w) A (call (.type "set") [.ref l]) Q E s := by
  have hisz : items.size = ns.length := by
    have q := IntsAre.length hit
    rw [Array.length_toList] at q
    exact q
  obtain ⟨c, tl, hmro⟩ := F.called_set.mro
  have hmade := F.called_set.made
  have hsub := F.called_set.sub
  refine wpAny_call (codeAny_of_tree ?_)
  show wpAny _ _ (callAny (.type "set") _) _ _ _
  refine wpAny_pure ⟨Code.quiet_builtin _ (by decide +kernel), codeAny_builtin F.entry_type_call ?_⟩
  rw [Around.under_plain (weight_type_call_type "set" [.ref l] []) rfl]
  have h1 := F.called_set.notType
  have h2 := F.called_set.canCreate
  have hct := F.typeCall_set_1 (.ref l)
  repeat (any_goals (first | assumption | wp_step))
  refine codeAny_mono (code_set_led1 (.ref l) (E := E) (Q₁ := fun obj s₁ => obj = .ref s.heap.objs.size ∧ s₁ = { s with heap := s.heap.push { cls := .type "set", dict := none, data := .set #[] 0 (.fresh 0 0 (!w.params.followText "set-order")) } }) ⟨rfl, rfl⟩) fun r s₁ hr => ?_
  cases r with
  | error e => exact hr
  | ok fl =>
    cases fl with
    | ret obj =>
      obtain ⟨rfl, rfl⟩ := hr
      have hS : (s.heap.push { cls := .type "set", dict := none, data := .set #[] 0 (.fresh 0 0 (!w.params.followText "set-order")) }).get? s.heap.objs.size = some { cls := .type "set", dict := none, data := .set #[] 0 (.fresh 0 0 (!w.params.followText "set-order")) } := Heap.get?_push_size _ rfl
      have hT : Shared.TypeIs { s with heap := s.heap.push { cls := .type "set", dict := none, data := .set #[] 0 (.fresh 0 0 (!w.params.followText "set-order")) } } (.ref s.heap.objs.size) "set" := ⟨_, hS, rfl⟩
      have hli := F.called_set.init.lookup
      have hbi := F.called_set.init.bind (.ref s.heap.objs.size)
      repeat (any_goals (first | assumption | wp_step))
      refine codeAny_mono (codeAny_call_builtin (R := wants (fun r s₂ => r = .none ∧ ∃ h' tk c, s₂ = { s with heap := h', toks := tk } ∧ SetR w h' s.heap.objs.size (fun j => decide (j ∈ ns)) c ∧ c ≤ ns.length ∧
          (∀ b o, s.heap.get? b = some o → h'.get? b = some o)) E) F.called_set.init.plain F.entry_set_init (check_set_init_1 hT ?_)) fun r₂ s₂ hr₂ => ?_
      · obtain ⟨ol, hol, hcl, nl, hdl⟩ := hl
        obtain ⟨ocls, odict, odata, oslots⟩ := ol
        simp only at hcl hdl
        subst hcl; subst hdl
        have hol' : (s.heap.push { cls := .type "set", dict := none, data := .set #[] 0 (.fresh 0 0 (!w.params.followText "set-order")) }).get? l = some { cls := .type "list", dict := odict, data := .seq items nl, slots := oslots } := Heap.get?_push_of_some _ hol
        have hsls := F.sub_list_set
        have hslf := F.sub_list_frozenset
        have hne : (Value.type "list" == Value.type "dict") = false := by decide
        have hl1 : (s.heap.push { cls := .type "set", dict := none, data := .set #[] 0 (.fresh 0 0 (!w.params.followText "set-order")) }).IsList l items := ⟨_, hol', rfl, nl, rfl⟩
        unfold Builtin.«set.__init__» noKeywords Builtin.Frozenset.updateFrom
        generalize hPI : pyIter = PI
        wp_walk
        subst hPI
        refine wpAny_pyIter_list hl1 ?_
        refine wpAny_bind (wpAny_runValue ?_)
        have hlS : l < s.heap.objs.size := Heap.lt_size hol
        have hh3 : A.in1.in1.in1.handled = none := by simp [hh]
        have hneI : l ≠ (s.heap.push { cls := .type "set", dict := none, data := .set #[] 0 (.fresh 0 0 (!w.params.followText "set-order")) }).objs.size := by
          rw [Heap.size_push]; exact Nat.ne_of_lt (Nat.lt_succ_of_lt hlS)
        have hSf : s.heap.objs.size ∉ [(s.heap.push { cls := .type "set", dict := none, data := .set #[] 0 (.fresh 0 0 (!w.params.followText "set-order")) }).objs.size, l] := by
          rw [Heap.size_push]; simp only [List.mem_cons, List.mem_singleton, List.not_mem_nil, or_false, not_or]
          exact ⟨Nat.ne_of_lt (Nat.lt_succ_self _), Nat.ne_of_gt hlS⟩
        have hval : ∀ (i : Nat) (v : Value), items[i]? = some v → ∃ k t, ns[i]? = some k ∧ v = .int k t := fun i v hv => by
          have hi : i < ns.length := by rw [← hisz]; exact (Array.getElem?_eq_some_iff.mp hv).1
          obtain ⟨t, e⟩ := PyProof.Rows.IntsAre.int_at hit i v (by rw [Array.getElem?_toList]; exact hv)
          refine ⟨ns[i], t, List.getElem?_eq_getElem hi, ?_⟩
          rw [e, List.getD_eq_getElem?_getD, List.getElem?_eq_getElem hi] <;> rfl
        refine set_update_ints ((Walks.list hh3 _ l hneI items).toS) s.heap.objs.size
          hSf ns hisz hb hval (items.size - 0) 0 _ (by omega) (Nat.zero_le _)
          ⟨⟨_, Heap.get?_push_size _ rfl, rfl, rfl⟩, (hl1.push _)⟩ ?hS0 ?hR
        case hS0 =>
          have hget : ((s.heap.push { cls := .type "set", dict := none, data := .set #[] 0 (.fresh 0 0 (!w.params.followText "set-order")) }).push { cls := .type "list_iterator", data := .fields #[.ref l, .int 0 0] }).get? s.heap.objs.size
              = some { cls := .type "set", dict := none, data := .set #[] 0 (.fresh 0 0 (!w.params.followText "set-order")) } := Heap.get?_push_of_some _ hS
          exact ⟨0, Nat.le_refl 0, setR_new_at hget⟩
        case hR =>
          intro s' c' hm hc' hS'
          obtain ⟨h', g2, d', tk', os'⟩ := s'
          have eg : g2 = s.gens := hm.gens
          have ed : d' = s.drawn := hm.drawn
          have eo : os' = s.os := hm.os
          subst eg; subst ed; subst eo
          show wpAny _ _ _ _ _ _
          refine wpAny_pure ?_
          show wpAny _ _ (PySem.ret Value.none) _ _ _
          rw [hisz] at hc'
          refine wpAny_pure ⟨rfl, h', tk', c', rfl, hS', hc', fun b o e => ?_⟩
          have hb0 : b < s.heap.objs.size := Heap.lt_size e
          have hb1 : b ≠ s.heap.objs.size := Nat.ne_of_lt hb0
          have hb2 : b ≠ (s.heap.push { cls := .type "set", dict := none, data := .set #[] 0 (.fresh 0 0 (!w.params.followText "set-order")) }).objs.size := by
            rw [Heap.size_push]; exact Nat.ne_of_lt (Nat.lt_succ_of_lt hb0)
          exact hm.heap b o (by simp only [List.mem_cons, List.mem_singleton, List.not_mem_nil, or_false, not_or]; exact ⟨hb1, hb2⟩) (Heap.get?_push_of_some _ (Heap.get?_push_of_some _ e))
      · cases r₂ with
        | error e => exact hr₂
        | ok fl₂ =>
          cases fl₂ with
          | ret r =>
            obtain ⟨rfl, h', tk, c', rfl, hS', hc', hk'⟩ := hr₂
            repeat (any_goals (first | assumption | wp_step))
            exact h _ _ _ hS' hc' hk'
          | _ => exact hr₂.elim
    | _ => exact hr.elim
theorem sort_tail {vs : List Value} {ns : List Int} {Q : Value → Shared → Prop} (hI : IntsAre vs ns) (hz : vs.length ≤ sizeLine)
    (h : ∀ (h' : Heap) (out : List Value) (c : Nat), (∀ b o, s.heap.get? b = some o → h'.get? b = some o) → h'.get? s.heap.objs.size = some (seqObj "list" out.toArray c) → IntsAre out (out.map SrtO.iv) → (out.map SrtO.iv).Perm ns → (out.map SrtO.iv).Pairwise (· ≤ ·) → Q (.ref s.heap.objs.size) { s with heap := h' }) :
    wpAny (model P w) A (newList vs >>= fun l => holding [l] (call (.builtin "list.sort") [l]) >>= fun _ => pure (PySem.Fin.done (.ret l))) (fun f s' => ∃ v, f = .done (.ret v) ∧ Q v s') E s := by
  refine wpAny_bind (wpAny_newList ?_ hz)
  have hoL : (s.heap.push (seqObj "list" vs.toArray 0)).get? s.heap.objs.size = some (seqObj "list" vs.toArray 0) := Heap.get?_push_size _ rfl
  show wpAny _ _ _ _ _ { s with heap := s.heap.push (seqObj "list" vs.toArray 0) }
  refine wpAny_bind (wpAny_holding (wpAny_call_entry PyProof.Rows.slot_list_sort ⟨_, hoL, rfl⟩ PyProof.Rows.entry_list_sort
    (SrtO.list_sort_ord (s := { s with heap := s.heap.push (seqObj "list" vs.toArray 0) }) SrtO.swo_int hoL hz (fun h2 => SrtO.ints_sortable hI h2) fun out h1 h2 => ⟨_, rfl, ?_⟩) (PyProof.Rows.args_list_sort _)))
  obtain ⟨k1, k2, k3⟩ := SrtO.ints_out hI h1 h2
  obtain ⟨e', he'⟩ := PyProof.Rows.sortedHeap_at (vs := vs) (out := out.toArray) hoL
  refine wpAny_pure ⟨_, rfl, h _ out e' (fun b u e => ?_) he' k1 k2 k3⟩
  have hb : b < s.heap.objs.size := Heap.lt_size e
  show (sortedHeap (s.heap.push (seqObj "list" vs.toArray 0)) s.heap.objs.size vs out.toArray).get? b = some u
  rw [PyProof.Rows.sortedHeap_old (Nat.ne_of_lt hb) (by rw [size_push']; exact Nat.lt_succ_of_lt hb)]
  exact Heap.get?_push_of_some _ e
end
section
variable {X : Cx}
def rSortedDN : List V → Hp → VK → Prop := fun xs H Q => ∃ (a : Addr) (kvs : List (Key × V)) (ks : List Int), xs = [.ref a] ∧ Rd H a (.dK kvs) ∧ kvs.map (·.1) = ks.map Sum.inl ∧
    ∀ (ys : List Int) (p : Addr), ys.Perm ks → ys.Pairwise (· ≤ ·) → H p = none → Q (.ref p) (upd H p (.lst (ys.map V.int)))
theorem cr_sortedDN (hcalm : X.calm = true) : CallR X (.builtin "sorted") rSortedDN := by
  intro pins s σ H xs us Q I r q
  obtain ⟨a, kvs, ks, ex, hd, hks, q⟩ := q
  subst ex
  rw [Vals.ref1 r]
  obtain ⟨z, lo, vs, rel, dd⟩ := dk_rd I.hok hd
  obtain ⟨ep, hat⟩ := dd.dictAt
  have hkeys : vs.map (·.1) = ks.map Sum.inl := rel.keys.symm.trans hks
  have hl : vs.length = ks.length := by
    have e := congrArg List.length hkeys
    rw [List.length_map, List.length_map] at e
    exact e
  have h16 : vs.length ≤ sizeLine := by rw [← rel.length]; exact z
  refine Calls.call_function_entry PyProof.Rows.kind_sorted PyProof.Rows.plain_sorted PyProof.Rows.entry_sorted (PyProof.Rows.args_sorted1 _) ?_
  unfold Builtin.«sorted»
  refine wpAny_bind (m := checkCount "sorted" 1 1 _) (wpAny_pure ?_)
  refine wpAny_bind (PySem.W.kdu_collect (A := X.A.in1) (PySem.W.kdl_dict (knd := mixKind X.prog X.w) (kvs := vs) (ep := ep) lo) (I.ok.hd hcalm) hat h16 fun h' tk acc hk hacc => ?_)
  have hal : acc.toList.length = ks.length := by rw [Array.length_toList, hacc.1, hl]
  have hS : IntsAre acc.toList ks := ints_each hal fun j v e => by
    obtain ⟨k, x, e1, e2⟩ := hacc.2 j v (by rw [← Array.getElem?_toList]; exact e)
    have e3 : (vs.map (·.1))[j]? = some k := by rw [List.getElem?_map, e1]; rfl
    rw [hkeys, List.getElem?_map] at e3
    cases e4 : ks[j]? with
    | none => rw [e4] at e3; cases e3
    | some y =>
      rw [e4] at e3
      have e5 : Sum.inl y = k := Option.some.inj e3
      subst e5
      rcases keyIs_shape (show keyIs (Sum.inl y) v = true from e2) with ⟨i, t, ek, ev⟩ | ⟨z, t, ek, ev⟩
      · cases ek
        exact ⟨y, t, rfl, ev⟩
      · cases ek
  have I1 : Inv X pins σ H { s with heap := h', toks := tk } := I.kept hk
  have hzz : acc.toList.length ≤ sizeLine := by rw [hal, ← hl]; exact h16
  refine sort_tail (s := { s with heap := h', toks := tk }) hS hzz fun h2 out c k2 hp j1 j2 j3 => ?_
  have hlen : ((out.map SrtO.iv).map V.int).length ≤ sizeLine := by rw [List.length_map, j2.length_eq, ← hal]; exact hzz
  exact ⟨.ref h'.objs.size, upd H h'.objs.size (.lst ((out.map SrtO.iv).map V.int)), I1.laid (t' := tk) k2 (Nat.le_refl _) ⟨hlen, out, c, vals_of_ints j1, hp⟩, rfl, q _ _ j2 j3 (I1.hok.fresh (Nat.le_refl _))⟩
end
end MV
namespace MV
open PySem PySem.Spec PyProof.Rows L2
def insD (k : Int) : List Int → List Int
  | [] => [k]
  | x :: r => if k < x then k :: x :: r else if k = x then x :: r else x :: insD k r
def dsI (ns : List Int) : List Int := ns.foldr insD []
def srtI (ns : List Int) : List Int := ns.mergeSort fun a b => decide (a ≤ b)
theorem srtI_perm (ns : List Int) : (srtI ns).Perm ns := List.mergeSort_perm _ _
theorem srtI_le (ns : List Int) : (srtI ns).Pairwise (· ≤ ·) := by
  have h := List.pairwise_mergeSort (le := fun a b : Int => decide (a ≤ b)) (fun a b c h1 h2 => by
    have h1 := of_decide_eq_true h1
    have h2 := of_decide_eq_true h2
    exact decide_eq_true (by omega)) (fun a b => by
      rw [Bool.or_eq_true, decide_eq_true_iff, decide_eq_true_iff]; omega) ns
  exact h.imp fun h => of_decide_eq_true h
theorem srtI_unique {ns a : List Int} (h1 : a.Perm ns) (h2 : a.Pairwise (· ≤ ·)) : a = srtI ns :=
  List.Perm.eq_of_pairwise (le := (· ≤ ·)) (fun x y _ _ h1 h2 => by omega) h2 (srtI_le ns) (h1.trans (srtI_perm ns).symm)
def keysI : List (Key × D) → Option (List Int)
  | [] => some []
  | (.inl i, _) :: r => (keysI r).map (i :: ·)
  | _ :: _ => none
theorem keysI_some : ∀ {kvs : List (Key × D)} {ks : List Int}, keysI kvs = some ks → kvs.map (·.1) = ks.map Sum.inl
  | [], ks, h => by cases h; rfl
  | (.inl i, d) :: r, ks, h => by
    unfold keysI at h
    obtain ⟨ks', h1, rfl⟩ := Option.map_eq_some_iff.mp h
    rw [List.map_cons, List.map_cons, keysI_some h1]
  | (.inr x, d) :: r, ks, h => by cases h
def gSorted : List D → Option D
  | [.lst ds] => (asInts ds).map fun ns => .lst ((srtI ns).map .int)
  | [.dic kvs] => (keysI kvs).map fun ns => .lst ((srtI ns).map .int)
  | _ => none
def gSortSet : List D → Option D
  | [.lst ds] => match asInts ds with
    | some ns => if ns.length ≤ 4000 then some (.lst ((dsI ns).map .int)) else none
    | none => none
  | _ => none
theorem ints_rp {K : PySem.W.Frag} {x : Bool} {G : Hp} : ∀ ns : List Int, RpL K x G (ns.map V.int) (ns.map D.int)
  | [] => .nil
  | n :: ns => .cons (.int n) (ints_rp ns)
theorem Rp.dic_invX {K : PySem.W.Frag} {x : Bool} {G : Hp} {v : V} {kvs : List (Key × D)} (h : Rp K x G v (.dic kvs)) : ∃ a kvs', v = .ref a ∧ DqK x G a kvs' ∧ kvs'.map (·.1) = kvs.map (·.1) ∧ RpL K x G (kvs'.map (·.2)) (kvs.map (·.2)) := by
  generalize e : D.dic kvs = d at h
  cases h with
  | sc h => subst e; cases h
  | dic h n r =>
    cases e
    rename_i a ks vs ds
    have l2 : ks.length = ds.length := n.trans r.length
    refine ⟨a, _, rfl, h, ?_, ?_⟩
    · rw [List.map_fst_zip (by omega), List.map_fst_zip (by omega)]
    · rw [List.map_snd_zip (by omega), List.map_snd_zip (by omega)]; exact r
  | _ => cases e
theorem Rp.dic_inv {K : PySem.W.Frag} {G : Hp} {v : V} {kvs : List (Key × D)} (h : Rp K true G v (.dic kvs)) : ∃ a kvs', v = .ref a ∧ G a = some (.dK kvs') ∧ kvs'.map (·.1) = kvs.map (·.1) ∧ RpL K true G (kvs'.map (·.2)) (kvs.map (·.2)) := h.dic_invX
theorem Rp.dit_inv {K : PySem.W.Frag} {x : Bool} {G : Hp} {v : V} {kvs : List (List Key × D)} (h : Rp K x G v (.dit kvs)) : ∃ a kvs', v = .ref a ∧ Rd G a (.dT kvs') ∧ kvs'.map (·.1) = kvs.map (·.1) ∧ RpL K x G (kvs'.map (·.2)) (kvs.map (·.2)) := by
  generalize e : D.dit kvs = d at h
  cases h with
  | sc h => subst e; cases h
  | dit h n r =>
    cases e
    rename_i a ks vs ds
    have l2 : ks.length = ds.length := n.trans r.length
    refine ⟨a, _, rfl, h, ?_, ?_⟩
    · rw [List.map_fst_zip (by omega), List.map_fst_zip (by omega)]
    · rw [List.map_snd_zip (by omega), List.map_snd_zip (by omega)]; exact r
  | _ => cases e
theorem zip_fs {α β : Type} (l : List (α × β)) : (l.map (·.1)).zip (l.map (·.2)) = l := by
  induction l with
  | nil => rfl
  | cons p r ih => simp [ih]
theorem Rp.dic_mk {K : PySem.W.Frag} {x : Bool} {G : Hp} {a : Addr} {kvs' : List (Key × V)} {kvs : List (Key × D)} (h : DqK x G a kvs') (h1 : kvs'.map (·.1) = kvs.map (·.1)) (h2 : RpL K x G (kvs'.map (·.2)) (kvs.map (·.2))) : Rp K x G (.ref a) (.dic kvs) := by
  have := Rp.dic (K := K) (x := x) (G := G) (a := a) (ks := kvs.map (·.1)) (vs := kvs'.map (·.2)) (ds := kvs.map (·.2)) (by rw [← h1, zip_fs]; exact h) (by rw [← h1, List.length_map, List.length_map]) h2
  rw [zip_fs] at this
  exact this
theorem Rp.dit_mk {K : PySem.W.Frag} {x : Bool} {G : Hp} {a : Addr} {kvs' : List (List Key × V)} {kvs : List (List Key × D)} (h : Rd G a (.dT kvs')) (h1 : kvs'.map (·.1) = kvs.map (·.1)) (h2 : RpL K x G (kvs'.map (·.2)) (kvs.map (·.2))) : Rp K x G (.ref a) (.dit kvs) := by
  have := Rp.dit (K := K) (x := x) (G := G) (a := a) (ks := kvs.map (·.1)) (vs := kvs'.map (·.2)) (ds := kvs.map (·.2)) (by rw [← h1, zip_fs]; exact h) (by rw [← h1, List.length_map, List.length_map]) h2
  rw [zip_fs] at this
  exact this
def rSorted2 (K : PySem.W.Frag) : List V → Hp → VK → Prop := fun xs H Q => rSortedI K xs H Q ∨ rSortedDN xs H Q
theorem snd_sorted {K : PySem.W.Frag} : SndN K true (rSorted2 K) gSorted := fun G H xs ds d e h q Q k => by
  unfold gSorted at q
  split at q
  · rename_i es
    obtain ⟨ns, q1, rfl⟩ := Option.map_eq_some_iff.mp q
    obtain ⟨v, rfl, hv⟩ := h.one
    obtain ⟨a, ys, rfl, s1, r1⟩ := hv.lst_inv
    have s1 : G a = some (.lst ys) := s1
    rw [asInts_rp r1 q1] at s1
    refine .inl ⟨a, ns, rfl, .inl (.inl (e _ _ s1)), fun ns' p h1 h2 hp => ?_⟩
    rw [srtI_unique h1 h2]
    exact k _ _ (Ex.new hp) (new_rp e hp (ints_rp _)) (new_nn (G := G) hp (ints_rp _))
  · rename_i kvs
    obtain ⟨ns, q1, rfl⟩ := Option.map_eq_some_iff.mp q
    obtain ⟨v, rfl, hv⟩ := h.one
    obtain ⟨a, kvs', rfl, s1, r1, r2⟩ := hv.dic_inv
    refine .inr ⟨a, kvs', ns, rfl, .inl (e _ _ s1), r1.trans (keysI_some q1), fun ns' p h1 h2 hp => ?_⟩
    rw [srtI_unique h1 h2]
    exact k _ _ (Ex.new hp) (new_rp e hp (ints_rp _)) (new_nn (G := G) hp (ints_rp _))
  · cases q
section
variable {X : Cx} {cf : Cf} {W : WX} {c : Cls} {n n1 n2 : Bool}
theorem se_sorted {e : Expr} {ta : TA} {fa : M (List D)} {p pos : Pos} (hK : cf.K = X.K) (hc : X.calm = true) (hm : X.mg "sorted" = none) (ha : SA X cf W c [e] ta fa) (hg : Gl X "sorted" := by rfl) (he : starEach [e] X.env = (false, eval e X.env) :: starEach [] X.env := by rfl) :
    SE X cf W .V true (.Call (.Name "sorted" p) [e] [] pos) (tCB (rSorted2 cf.K) ta) (eF (eN gSorted fa)) :=
  (se_cb (by rw [hK]; exact CallR.or cr_sortedI (cr_sortedDN hc)) snd_sorted hg hm (by first | rfl | decide +kernel) ha (by decide) (by decide) he rfl).flat
end
end MV
namespace MV
open PySem PySem.Spec PyProof.Rows L2
def gR3 : List D → Option (List D)
  | [.int i, .int j, .int c] => if smallI i && smallI j && decide (c = -1) then some (rngC i (-1) (i - j).toNat) else none
  | _ => none
theorem RpL.three {K : PySem.W.Frag} {x : Bool} {G : Hp} {xs : List V} {d e f : D} (h : RpL K x G xs [d, e, f]) : ∃ v w u, xs = [v, w, u] ∧ Rp K x G v d ∧ Rp K x G w e ∧ Rp K x G u f := by
  cases h with
  | cons h1 r =>
    obtain ⟨w, u, rfl, h2, h3⟩ := r.two
    exact ⟨_, w, u, rfl, h1, h2, h3⟩
section
variable {X : Cx} {cf : Cf} {W : WX} {c : Cls} {n n1 n2 : Bool} {tg : Expr}
theorem si_range3 {a b b2 : Expr} {ta : TA} {fa : M (List D)} {p pos : Pos} (hg : Gl X "range") (hm : X.mg "range" = none) (ha : SA X cf W c [a, b, b2] ta fa) (hs : starEach [a, b, b2] X.env = (false, eval a X.env) :: starEach [b, b2] X.env := by rfl) (hpl : (backTo pos (starEach [b, b2] X.env)).any (·.1) = false := by rfl) : SI X cf W tg (.Call (.Name "range" p) [a, b, b2] [] pos) (iRng3 ta) (iN gR3 fa) := by
  obtain ⟨q, s⟩ := ha
  refine ⟨pi_range3 hg hm q hs hpl, SdI.mk (fun R Hs env σ H F wf r ds env' q Rk k => ?_) (fun R Hs env σ H F wf r x env' q Rk k => ?_)⟩
  · obtain ⟨d1, env1, q1, q⟩ := bnd_ok q
    obtain ⟨qg, rfl⟩ := lift_ok q
    unfold gR3 at qg
    split at qg
    · split at qg
      · rename_i hb
        cases qg
        rw [Bool.and_eq_true, Bool.and_eq_true, decide_eq_true_iff] at hb
        obtain ⟨⟨h1, h2⟩, rfl⟩ := hb
        refine s.ok r q1 fun v Hs1 H1 s1 r1 p1 => ?_
        obtain ⟨w, w2, w3, rfl, hw, hw2, hw3⟩ := p1.three
        exact ⟨_, _, _, _, by rw [hw.int_inv, hw2.int_inv, hw3.int_inv], RgC.neg (smallI_of h1).1 (smallI_of h1).2 (smallI_of h2).1 (smallI_of h2).2, k _ Hs1 H1 s1 r1 itc_ok⟩
      · cases qg
    · cases qg
  · rcases bnd_ex q with q | ⟨d1, env1, q1, q⟩
    · exact s.exn r q k
    · exact (lift_ex q).elim
end
@[simp] theorem gR3_i {i j : Int} : gR3 [.int i, .int j, .int (-1)] = if smallI i && smallI j then some (rngC i (-1) (i - j).toNat) else none := by
  unfold gR3; simp
def keyD : D → Option Key
  | .int i => some (.inl i)
  | .str x => some (.inr x)
  | _ => none
def keysD : List D → Option (List Key)
  | [] => some []
  | d :: r => match keyD d, keysD r with
    | some k, some ks => some (k :: ks)
    | _, _ => none
def dval {κ : Type} [DecidableEq κ] (kvs : List (κ × D)) (k : κ) : Option D := (kvs.find? fun kv => decide (kv.1 = k)).map (·.2)
def dput {κ : Type} [DecidableEq κ] (kvs : List (κ × D)) (k : κ) (d : D) : List (κ × D) :=
  if (kvs.any fun kv => decide (kv.1 = k)) = true then kvs.map (fun kv => if kv.1 = k then (kv.1, d) else kv) else kvs ++ [(k, d)]
def dLook : D → D → Option (Option D)
  | .dic kvs, y => (keyD y).map fun k => dval kvs k
  | .dit kvs, .tup ks => (keysD ks).map fun k => dval kvs k
  | _, _ => none
def isDic : D → Option Unit
  | .dic _ => some ()
  | .dit _ => some ()
  | _ => none
theorem keyD_v {K : PySem.W.Frag} {x : Bool} {G : Hp} {y : V} {d : D} {k : Key} (h : Rp K x G y d) (q : keyD d = some k) : y = kV k := by
  cases d with
  | int i => cases q; exact h.int_inv
  | str z => cases q; exact h.str_inv
  | _ => cases q
theorem keysD_v {K : PySem.W.Frag} {x : Bool} {G : Hp} : ∀ {ys : List V} {ds : List D} {ks : List Key}, RpL K x G ys ds → keysD ds = some ks → ys = ks.map kV
  | _, _, _, .nil, q => by cases q; rfl
  | _, _, _, .cons h r, q => by
    unfold keysD at q
    split at q
    · rename_i k ks q1 q2
      cases q
      rw [List.map_cons, keyD_v h q1, keysD_v r q2]
    · cases q
def OR (K : PySem.W.Frag) (G : Hp) : Option D → Option V → Prop
  | none, none => True
  | some d, some v => Rp K true G v d
  | _, _ => False
section
variable {κ : Type} [DecidableEq κ] {K : PySem.W.Frag} {x : Bool} {G : Hp}
theorem val_rp {k : κ} : ∀ {kvs' : List (κ × V)} {kvs : List (κ × D)}, kvs'.map (·.1) = kvs.map (·.1) → RpL K true G (kvs'.map (·.2)) (kvs.map (·.2)) → OR K G (dval kvs k) (valV kvs' k)
  | [], [], _, _ => True.intro
  | p :: r, q :: s, h1, h2 => by
    rw [List.map_cons, List.map_cons] at h1 h2
    injection h1 with e1 e2
    cases h2 with
    | cons h2 h3 =>
      by_cases e : p.1 = k
      · have e' : q.1 = k := e1 ▸ e
        rw [valV_pos e]
        have : dval (q :: s) k = some q.2 := by simp [dval, e']
        rw [this]; exact h2
      · have e' : ¬ q.1 = k := fun z => e (e1.trans z)
        rw [valV_neg e]
        have : dval (q :: s) k = dval s k := by simp [dval, e']
        rw [this]; exact val_rp e2 h3
  | [], _ :: _, h1, _ => by cases h1
  | _ :: _, [], h1, _ => by cases h1
theorem any_rp {k : κ} : ∀ {kvs' : List (κ × V)} {kvs : List (κ × D)}, kvs'.map (·.1) = kvs.map (·.1) → (kvs'.any fun kv => decide (kv.1 = k)) = kvs.any fun kv => decide (kv.1 = k)
  | [], [], _ => rfl
  | p :: r, q :: s, h1 => by
    rw [List.map_cons, List.map_cons] at h1
    injection h1 with e1 e2
    rw [List.any_cons, List.any_cons, any_rp e2, e1]
  | [], _ :: _, h1 => by cases h1
  | _ :: _, [], h1 => by cases h1
theorem map_rp {k : κ} {v : V} {d : D} (hv : Rp K x G v d) : ∀ {kvs' : List (κ × V)} {kvs : List (κ × D)}, kvs'.map (·.1) = kvs.map (·.1) → RpL K x G (kvs'.map (·.2)) (kvs.map (·.2)) →
    (kvs'.map fun kv => if kv.1 = k then (kv.1, v) else kv).map (·.1) = (kvs.map fun kv => if kv.1 = k then (kv.1, d) else kv).map (·.1) ∧
    RpL K x G ((kvs'.map fun kv => if kv.1 = k then (kv.1, v) else kv).map (·.2)) ((kvs.map fun kv => if kv.1 = k then (kv.1, d) else kv).map (·.2))
  | [], [], _, _ => ⟨rfl, .nil⟩
  | p :: r, q :: s, h1, h2 => by
    rw [List.map_cons, List.map_cons] at h1 h2
    injection h1 with e1 e2
    cases h2 with
    | cons h2 h3 =>
      obtain ⟨i1, i2⟩ := map_rp (k := k) hv e2 h3
      simp only [List.map_cons]
      by_cases e : p.1 = k
      · have e' : q.1 = k := e1 ▸ e
        rw [if_pos e, if_pos e', i1, e1]
        exact ⟨rfl, .cons hv i2⟩
      · have e' : ¬ q.1 = k := fun z => e (e1.trans z)
        rw [if_neg e, if_neg e', i1, e1]
        exact ⟨rfl, .cons h2 i2⟩
  | [], _ :: _, h1, _ => by cases h1
  | _ :: _, [], h1, _ => by cases h1
theorem put_rp {k : κ} {v : V} {d : D} (hv : Rp K x G v d) {kvs' : List (κ × V)} {kvs : List (κ × D)} (h1 : kvs'.map (·.1) = kvs.map (·.1)) (h2 : RpL K x G (kvs'.map (·.2)) (kvs.map (·.2))) :
    (putK kvs' k v).map (·.1) = (dput kvs k d).map (·.1) ∧ RpL K x G ((putK kvs' k v).map (·.2)) ((dput kvs k d).map (·.2)) := by
  unfold putK dput
  rw [any_rp h1]
  split
  · exact map_rp hv h1 h2
  · rw [List.map_append, List.map_append, List.map_append, List.map_append, h1]
    exact ⟨rfl, h2.append (.cons hv .nil)⟩
end
theorem look_rp {K : PySem.W.Frag} {G H : Hp} {x y : V} {d e : D} {o : Option D} (ex : Ex G H) (h1 : Rp K true G x d) (h2 : Rp K true G y e) (q : dLook d e = some o) : ∃ a ov, x = .ref a ∧ IsD H a ∧ DGet H a y ov ∧ OR K G o ov := by
  unfold dLook at q
  split at q
  · rename_i kvs
    obtain ⟨k, q1, rfl⟩ := Option.map_eq_some_iff.mp q
    obtain ⟨a, kvs', rfl, g, r1, r2⟩ := h1.dic_inv
    exact ⟨a, valV kvs' k, rfl, .inl ⟨_, .inl (ex _ _ g)⟩, .inl ⟨_, k, .inl (ex _ _ g), keyD_v h2 q1, rfl⟩, val_rp r1 r2⟩
  · rename_i kvs ks
    obtain ⟨k, q1, rfl⟩ := Option.map_eq_some_iff.mp q
    obtain ⟨a, kvs', rfl, g, r1, r2⟩ := h1.dit_inv
    obtain ⟨b, ys, rfl, s1, r3⟩ := h2.tup_inv
    have s1 : G b = some (.tup ys) := s1
    rw [keysD_v r3 q1] at s1
    exact ⟨a, valV kvs' k, rfl, .inr ⟨_, rd_mono ex g⟩, .inr ⟨_, k, b, rd_mono ex g, rfl, ex _ _ s1, rfl⟩, val_rp r1 r2⟩
  · cases q
def gDIx (x y : D) : Option D := match dLook x y with
  | some (some d) => some d
  | _ => none
def rDIx : R2 := fun x y H Q => ∃ a v, x = .ref a ∧ DGet H a y (some v) ∧ Q v H
theorem snd_dix {K : PySem.W.Frag} : Snd2 K false rDIx gDIx := fun G H x y d1 d2 d e h1 h2 q Q k => by
  unfold gDIx at q
  split at q
  · rename_i d' q1
    cases q
    obtain ⟨a, ov, rfl, _, g, o⟩ := look_rp e h1 h2 q1
    cases ov with
    | none => exact o.elim
    | some v => exact ⟨a, v, rfl, g, k v H (Ex.refl H) (Rp.mono (Ex.grow e (Ex.refl H)) o) fun z => by cases z⟩
  · cases q
def gDNewK : List D → Option D := fun _ => some (.dic [])
def gDNewT : List D → Option D := fun _ => some (.dit [])
def rDNewK : List V → Hp → VK → Prop := fun _ H Q => ∀ p, H p = none → Q (.ref p) (upd H p (.dK []))
theorem snd_dnewK {K : PySem.W.Frag} : SndN K true rDNewK gDNewK := fun G H xs ds d e h q Q k => by
  cases q
  exact fun p hp => k _ _ (Ex.new hp) (.dic_mk (kvs' := []) (kvs := []) (by show grow _ _ _ _ = _; rw [grow_none hp, upd_same]) rfl .nil) fun _ hf => by cases hf
def eDGet1 (fo fk : M D) : M D := bnd fo fun d => bnd (lift (isDic d)) fun _ => bnd fk fun k => lift ((dLook d k).map fun o => o.getD .non)
def eDGet2 (fo fk fx : M D) : M D := bnd fo fun d => bnd (lift (isDic d)) fun _ => bnd fk fun k => bnd fx fun x => lift ((dLook d k).map fun o => o.getD x)
theorem isD_rp {K : PySem.W.Frag} {G H : Hp} {x : V} {d : D} (e : Ex G H) (h : Rp K true G x d) {z : Unit} (q : isDic d = some z) : ∃ a, x = .ref a ∧ IsD H a := by
  cases d with
  | dic kvs => obtain ⟨a, _, rfl, g, _⟩ := h.dic_inv; exact ⟨a, rfl, .inl ⟨_, .inl (e _ _ g)⟩⟩
  | dit kvs => obtain ⟨a, _, rfl, g, _⟩ := h.dit_inv; exact ⟨a, rfl, .inr ⟨_, rd_mono e g⟩⟩
  | _ => cases q
section
variable {X : Cx} {cf : Cf} {W : WX} {c : Cls} {n n1 n2 n3 : Bool}
theorem sd_dget1 {to tk : TE} {fo fk : M D} (ho : Sd cf W c n1 to fo) (hk : Sd cf W c n2 tk fk) : Sd cf W c false (tDGet1 to tk) (eDGet1 fo fk) := by
  refine Sd.mk (fun R Hs env σ H F wf r d env' q Q k => ?_) (fun R Hs env σ H F wf r x env' q Q k => ?_)
  · obtain ⟨d1, env1, q1, qa⟩ := bnd_ok q
    obtain ⟨u, env2, qu, qb⟩ := bnd_ok qa
    obtain ⟨qv, rfl⟩ := lift_ok qu
    obtain ⟨d2, env3, q2, q⟩ := bnd_ok qb
    obtain ⟨qg, rfl⟩ := lift_ok q
    obtain ⟨o, ql, rfl⟩ := Option.map_eq_some_iff.mp qg
    refine ho.ok r q1 fun v Hs1 H1 s1 r1 p1 _ => ?_
    obtain ⟨a, rfl, ia⟩ := isD_rp (rg_sub r1.exs) p1 qv
    refine ⟨a, rfl, ia, hk.ok r1 q2 fun v2 Hs2 H2 s2 r2 p2 _ => ?_⟩
    obtain ⟨a', ov, e', _, g, oo⟩ := look_rp (G := rg c R.H0 Hs2 H H2 wf) (H := H2) (rg_sub r2.exs) (p1.mono (rg_step s2)) (p2.mono (rg_start s1.dom)) ql
    cases e'
    refine ⟨ov, g, k _ Hs2 H2 (s1.trans s2) r2 ?_ fun z => by cases z⟩
    cases o with
    | none => cases ov with
      | none => exact .non
      | some v => exact oo.elim
    | some d => cases ov with
      | none => exact oo.elim
      | some v => exact oo
  · rcases bnd_ex q with q | ⟨d1, env1, q1, q⟩
    · exact ho.exn r q fun Hs' H' s' r' => k Hs' H' s' r'
    · rcases bnd_ex q with q | ⟨u, env2, qu, qb⟩
      · exact (lift_ex q).elim
      · obtain ⟨qv, rfl⟩ := lift_ok qu
        rcases bnd_ex qb with q | ⟨d2, env2, q2, q⟩
        · refine ho.ok r q1 fun v Hs1 H1 s1 r1 p1 _ => ?_
          obtain ⟨a, rfl, ia⟩ := isD_rp (rg_sub r1.exs) p1 qv
          exact ⟨a, rfl, ia, hk.exn r1 q fun Hs2 H2 s2 r2 => k Hs2 H2 (s1.trans s2) r2⟩
        · exact (lift_ex q).elim
theorem se_dix {a b : Expr} {ta tb : TE} {fa fb : M D} {pos : Pos} (hu : X.A.units + 64 < cLine) (ha : SE X cf W c n1 a ta fa) (hb : SE X cf W c n2 b tb fb) (hs : NoSl b := by intro _ _; rfl) : SE X cf W c false (.Subscript a b pos) (tOp rDIx ta tb) (e2 gDIx fa fb) :=
  ⟨pe_dget (by omega) ha.p hb.p hs, sd_op2 snd_dix ha.s hb.s⟩
theorem se_dnewK {pos : Pos} : SE X cf W .V true (.Dict [] [] pos) (tCB rDNewK tNil) (eN gDNewK aNil) := ⟨pe_dnewK, sd_opN snd_dnewK sda_nil⟩
theorem se_dget1 {o e : Expr} {to tk : TE} {fo fk : M D} {apos cpos : Pos} (hu : X.A.units + 64 < cLine) (ho : SE X cf W c n1 o to fo) (hk : SE X cf W c n2 e tk fk) (m : M1 X o "get" apos e cpos := by exact ⟨rfl, rfl, rfl, rfl⟩) : SE X cf W c false (.Call (.Attribute o "get" apos) [e] [] cpos) (tDGet1 to tk) (eDGet1 fo fk) :=
  ⟨pe_dget1 (by omega) ho.p hk.p m, sd_dget1 ho.s hk.s⟩
def dok : D → Bool
  | .dic [] => true
  | .dit [] => true
  | _ => false
def sSetD (i : Nat) (f : M D) : M Fl := bnd f fun d => bnd (lift (if dok d then some d else none)) fun d => fun e => .ok .nx (e.set i (some d))
theorem dnewK_dic {env e' : PEnv} {d : D} (h : eN gDNewK aNil env = .ok d e') : ∃ kvs, d = .dic kvs := by cases h; exact ⟨[], rfl⟩
theorem ss_setD {i : Nat} {st : Stmt} {f : M D} (h : SG X cf W .V n i st f) (hk : cf.kd i = .M) (hd : ∀ env d e', f env = .ok d e' → ∃ kvs, d = .dic kvs) (hob : cf.ob = none := by rfl) : SS X cf W st (sSetD i f) := by
  obtain ⟨te, p, s⟩ := h
  refine ⟨_, p, fun R Hs env σ H F wf r D hp => ?_⟩
  have s0 := s R Hs env σ H F wf r fun v H1 => gName i v σ H1 D.nx
  have hp0 := hp
  unfold sSetD bnd at hp0
  cases qf : f env with
  | stuck => rw [qf] at hp0; exact hp0.elim
  | ex x env1 => rw [qf] at s0 hp0; exact s0 fun Hs1 H1 s1 r1 => hp0 Hs1 σ H1 F wf s1.ex r1
  | ok d env1 =>
  obtain ⟨kvs0, rfl⟩ := hd _ d env1 qf
  rw [qf] at s0 hp0
  refine s0 fun v Hs1 H1 s1 r1 p1 _ => ?_
  have hp : Post cf W R Hs D (bnd (lift (if dok (.dic kvs0) then some (.dic kvs0) else none)) (fun d => fun e => .ok .nx (e.set i (some d))) env1) := hp0
  obtain ⟨d', e, hp⟩ := post_lift hp
  split at e
  · cases e
    rename_i hm
    have p1 : Rp cf.K true (rs Hs1 H) v (.dic kvs0) := p1
    have hio : R.io ≠ none → i ≠ 0 := fun hh e => by
        cases z : R.io with
        | none => exact hh z
        | some q =>
          obtain ⟨_, _, h3, _⟩ := r.ior q z
          rw [← e, hk] at h3; cases h3
    have fin : ∀ (a : Addr) (o : HO), v = .ref a → rs Hs1 H a = some o → (H1 a = some o → Own cf.K (rs (rm Hs1 [a]) R.H0) H1 [a] (.ref a) (.dic kvs0)) → D.nx (σ.set i (some v)) H1 := fun a o ev h1 ow => by
      subst ev
      have hna : H a = none := by
        cases z : H a with
        | none => rfl
        | some o => rw [rs_some z] at h1; cases h1
      rw [rs_none hna] at h1
      obtain ⟨r2, e2⟩ := r.own s1 r1 (i := i) (v := .ref a) (d := .dic kvs0) (Fn := [a]) (wf' := wf) hio (by simp)
        (fun b m => by
          rw [List.mem_singleton.mp m]
          exact ⟨hna, by rw [r1.exs _ _ h1]; exact fun z => by cases z⟩)
        (fun b => ⟨.inl, fun z => z.elim id fun z => by rw [hk] at z; cases z.1⟩)
        (by rw [hk]; exact ⟨ow (r1.exs _ _ h1), fun z => (by cases z), Nat.le_refl _⟩) (.inl hob)
      exact hp _ _ H1 _ wf e2 r2
    cases kvs0 with
    | cons _ _ => cases hm
    | nil =>
      obtain ⟨a, kvs', rfl, h1, h2, h3⟩ := p1.dic_inv
      cases kvs' with
      | cons _ _ => cases h2
      | nil => exact fin a _ rfl h1 fun ha => Own.dic (ks := []) (vs := []) (ds := []) ha rfl .nil
  · cases e
end
end MV
namespace MV
open PySem PySem.Spec PyProof.Rows L2
def dPut : D → D → D → Option D
  | .dic kvs, y, v => match keyD y with
    | some k => if kvs.length < LIM then some (.dic (dput kvs k v)) else none
    | none => none
  | .dit kvs, .tup ks, v => match keysD ks with
    | some k => if kvs.length < LIM then some (.dit (dput kvs k v)) else none
    | none => none
  | _, _, _ => none
def dicAt (i : Nat) (e : PEnv) : Option D := match e[i]? with
  | some (some d) => if (isDic d).isSome then some d else none
  | _ => none
theorem dicAt_some {i : Nat} {e : PEnv} {d : D} (h : dicAt i e = some d) : e[i]? = some (some d) ∧ (isDic d).isSome = true := by
  unfold dicAt at h
  split at h
  · rename_i q
    split at h
    · rename_i z; cases h; exact ⟨q, z⟩
    · cases h
  · cases h
def sDP (i : Nat) (fv fk : M D) : M Fl := bnd fv fun d => fun e => match dicAt i e with
  | none => .stuck
  | some _ => bnd fk (fun k => fun e => match dicAt i e with
    | some m => match dPut m k d with
      | some m' => .ok .nx (e.set i (some m'))
      | none => .stuck
    | none => .stuck) e
section
variable {X : Cx} {cf : Cf} {W : WX} {c : Cls} {n n1 n2 n3 : Bool}
theorem own_dic {R : Rs} {Hs : Hp} {env : PEnv} {σ : L2.St} {H : Hp} {F : Nat → List Addr} {wf : List Addr} {i : Nat} {kvs : List (Key × D)} (r : Rel cf R Hs env σ H F wf) (hk : cf.kd i = .M) (h : env[i]? = some (some (.dic kvs))) : ∃ p kvs', σ[i]? = some (some (.ref p)) ∧ F i = [p] ∧ H p = some (.dK kvs') ∧ kvs'.map (·.1) = kvs.map (·.1) ∧ RpL cf.K true (rs Hs R.H0) (kvs'.map (·.2)) (kvs.map (·.2)) := by
  obtain ⟨v, h1, h2⟩ := r.slot i _ h
  rw [hk] at h2
  obtain ⟨h2, h3, h4⟩ := h2
  generalize hF : F i = L at h2 h3 h4
  generalize e : D.dic kvs = d at h2 h3
  cases h2 with
  | leaf _ => subst e; cases h3 rfl
  | dic h5 l h6 =>
    cases e
    rename_i p F' ks vs ds
    have e : F' = [] := by
      rw [List.length_cons] at h4
      exact List.length_eq_zero_iff.mp (by omega)
    subst e
    have h7 := h6.leafs rfl
    have l2 : ks.length = ds.length := l.trans h7.length
    refine ⟨p, _, h1, rfl, h5, ?_, ?_⟩
    · rw [List.map_fst_zip (by omega), List.map_fst_zip (by omega)]
    · rw [List.map_snd_zip (by omega), List.map_snd_zip (by omega)]; exact h7
  | _ => cases e
theorem own_dit {R : Rs} {Hs : Hp} {env : PEnv} {σ : L2.St} {H : Hp} {F : Nat → List Addr} {wf : List Addr} {i : Nat} {kvs : List (List Key × D)} (r : Rel cf R Hs env σ H F wf) (hk : cf.kd i = .M) (h : env[i]? = some (some (.dit kvs))) : ∃ p kvs', σ[i]? = some (some (.ref p)) ∧ F i = [p] ∧ H p = some (.dT kvs') ∧ kvs'.map (·.1) = kvs.map (·.1) ∧ RpL cf.K true (rs Hs R.H0) (kvs'.map (·.2)) (kvs.map (·.2)) := by
  obtain ⟨v, h1, h2⟩ := r.slot i _ h
  rw [hk] at h2
  obtain ⟨h2, h3, h4⟩ := h2
  generalize hF : F i = L at h2 h3 h4
  generalize e : D.dit kvs = d at h2 h3
  cases h2 with
  | leaf _ => subst e; cases h3 rfl
  | dit h5 l h6 =>
    cases e
    rename_i p F' ks vs ds
    have e : F' = [] := by
      rw [List.length_cons] at h4
      exact List.length_eq_zero_iff.mp (by omega)
    subst e
    have h7 := h6.leafs rfl
    have l2 : ks.length = ds.length := l.trans h7.length
    refine ⟨p, _, h1, rfl, h5, ?_, ?_⟩
    · rw [List.map_fst_zip (by omega), List.map_fst_zip (by omega)]
    · rw [List.map_snd_zip (by omega), List.map_snd_zip (by omega)]; exact h7
  | _ => cases e
theorem Own.dic_mk {K : PySem.W.Frag} {Hn H : Hp} {p : Addr} {kvs' : List (Key × V)} {kvs : List (Key × D)} (h : H p = some (.dK kvs')) (h1 : kvs'.map (·.1) = kvs.map (·.1)) (h2 : RpL K true Hn (kvs'.map (·.2)) (kvs.map (·.2))) : Own K Hn H [p] (.ref p) (.dic kvs) := by
  have := Own.dic (K := K) (Hn := Hn) (H := H) (p := p) (F := []) (ks := kvs.map (·.1)) (vs := kvs'.map (·.2)) (ds := kvs.map (·.2)) (by rw [← h1, zip_fs]; exact h) (by rw [← h1, List.length_map, List.length_map]) (ownL_of h2)
  rw [zip_fs] at this
  exact this
theorem Own.dit_mk {K : PySem.W.Frag} {Hn H : Hp} {p : Addr} {kvs' : List (List Key × V)} {kvs : List (List Key × D)} (h : H p = some (.dT kvs')) (h1 : kvs'.map (·.1) = kvs.map (·.1)) (h2 : RpL K true Hn (kvs'.map (·.2)) (kvs.map (·.2))) : Own K Hn H [p] (.ref p) (.dit kvs) := by
  have := Own.dit (K := K) (Hn := Hn) (H := H) (p := p) (F := []) (ks := kvs.map (·.1)) (vs := kvs'.map (·.2)) (ds := kvs.map (·.2)) (by rw [← h1, zip_fs]; exact h) (by rw [← h1, List.length_map, List.length_map]) (ownL_of h2)
  rw [zip_fs] at this
  exact this
theorem len_of_keys {α β γ : Type} {a : List (α × β)} {b : List (α × γ)} (h : a.map (·.1) = b.map (·.1)) : a.length = b.length := by
  have := congrArg List.length h
  rw [List.length_map, List.length_map] at this
  exact this
theorem own_root {R : Rs} {Hs : Hp} {env : PEnv} {σ : L2.St} {H : Hp} {F : Nat → List Addr} {wf : List Addr} {i : Nat} {d : D} (r : Rel cf R Hs env σ H F wf) (hk : cf.kd i = .M) (h : dicAt i env = some d) : ∃ p, σ[i]? = some (some (.ref p)) := by
  obtain ⟨h1, h2⟩ := dicAt_some h
  cases d with
  | dic kvs => obtain ⟨p, _, q, _⟩ := own_dic r hk h1; exact ⟨p, q⟩
  | dit kvs => obtain ⟨p, _, q, _⟩ := own_dit r hk h1; exact ⟨p, q⟩
  | _ => cases h2
theorem ss_dput {i : Nat} {o ix e : Expr} {te ti : TE} {f fi : M D} {spos pos : Pos} (hu : X.A.units + 64 < cLine) (po : PE X o (tVar i)) (hk : cf.kd i = .M) (h : SE X cf W .N n e te f) (hi : SE X cf W c n1 ix ti fi)
    (hs : swapsWith e (some (.Subscript o ix spos)) pos.line X.env = pure false := by rfl) : SS X cf W (.Assign [.Subscript o ix spos] e pos) (sDP i f fi) := by
  refine ⟨_, ps_dput (by omega) po hi.p h.p hs, fun R Hs env σ H F wf r D hp => ?_⟩
  refine h.s.bind r hp fun d env1 v Hs1 H1 s1 r1 p1 _ hp => ?_
  cases q0 : dicAt i env1 with
  | none => simp only [q0] at hp; exact hp.elim
  | some ds0 =>
    simp only [q0] at hp
    obtain ⟨p0, a1⟩ := own_root r1 hk q0
    refine ⟨.ref p0, a1, ?_⟩
    refine hi.s.bind r1 (Post.mono s1.ex hp) fun k env2 vk Hs2 H2 s2 r2 p2 _ hp => ?_
    cases q : dicAt i env2 with
    | none => simp only [q] at hp; exact hp.elim
    | some m =>
      simp only [q] at hp
      obtain ⟨qe, qd⟩ := dicAt_some q
      cases qm : dPut m k d with
      | none => simp only [qm] at hp; exact hp.elim
      | some m' =>
        simp only [qm] at hp
        unfold dPut at qm
        split at qm
        · split at qm
          · rename_i kk q1
            split at qm
            · rename_i hl
              cases qm
              obtain ⟨p, kvs', h1, h2, h3, h4, h5⟩ := own_dic r2 hk qe
              have ep : p = p0 := by rw [h1] at a1; cases a1; rfl
              subst ep
              refine ⟨p, _, rfl, .inl ⟨kvs', kk, h3, keyD_v p2 q1, by rw [len_of_keys h4]; exact lim_lt hl, rfl⟩, ?_⟩
              obtain ⟨k1, k2⟩ := put_rp (k := kk) (p1.mono (rs_mono s2.ex)) h4 h5
              exact hp Hs2 σ _ F wf s2.ex (r2.mut (i := i) (p := p) (v := .ref p) (d0 := .dic _) (by rw [h2]; exact List.mem_cons_self) qe h1 (by
                rw [hk, h2]
                exact ⟨Own.dic_mk upd_same k1 k2, fun z => (by cases z), Nat.le_refl _⟩))
            · cases qm
          · cases qm
        · split at qm
          · rename_i kk q1
            split at qm
            · rename_i hl
              cases qm
              obtain ⟨p, kvs', h1, h2, h3, h4, h5⟩ := own_dit r2 hk qe
              have ep : p = p0 := by rw [h1] at a1; cases a1; rfl
              subst ep
              obtain ⟨b, ys, rfl, t1, t2⟩ := p2.tup_inv
              have t1 : rg c R.H0 Hs2 H1 H2 wf b = some (.tup ys) := t1
              rw [keysD_v t2 q1] at t1
              refine ⟨p, _, rfl, .inr ⟨kvs', kk, b, h3, rfl, rg_sub r2.exs _ _ t1, by rw [len_of_keys h4]; exact lim_lt hl, rfl⟩, ?_⟩
              obtain ⟨k1, k2⟩ := put_rp (k := kk) (p1.mono (rs_mono s2.ex)) h4 h5
              exact hp Hs2 σ _ F wf s2.ex (r2.mut (i := i) (p := p) (v := .ref p) (d0 := .dit _) (by rw [h2]; exact List.mem_cons_self) qe h1 (by
                rw [hk, h2]
                exact ⟨Own.dit_mk upd_same k1 k2, fun z => (by cases z), Nat.le_refl _⟩))
            · cases qm
          · cases qm
        · cases qm
def gTup1 : List D → Option D
  | [.lst ds] => some (.tup ds)
  | _ => none
end
section
variable {e : PEnv} {fo fk fx fv : M D} {i : Nat} {ds : List D} {kvs : List (Key × D)} {kts : List (List Key × D)}
@[simp] theorem r_eDGet1 : eDGet1 fo fk e = rb (fo e) fun d e => ro (isDic d) fun _ => rb (fk e) fun k e => lift ((dLook d k).map fun o => o.getD .non) e := by
  show rb (fo e) _ = _
  congr 1; funext d e
  show rb (lift (isDic d) e) _ = _
  cases isDic d <;> rfl
@[simp] theorem r_eDGet2 : eDGet2 fo fk fx e = rb (fo e) fun d e => ro (isDic d) fun _ => rb (fk e) fun k e => rb (fx e) fun x e => lift ((dLook d k).map fun o => o.getD x) e := by
  show rb (fo e) _ = _
  congr 1; funext d e
  show rb (lift (isDic d) e) _ = _
  cases isDic d <;> rfl
@[simp] theorem r_sSetD : sSetD i fv e = rb (fv e) fun d e => if dok d then .ok .nx (e.set i (some d)) else .stuck := by
  show rb (fv e) _ = _
  congr 1; funext d e; cases h : dok d <;> simp [h]
def dicO (o : Option (Option D)) : Option D := match o with
  | some (some d) => if (isDic d).isSome then some d else none
  | _ => none
@[simp] theorem dicO_k : dicO (some (some (.dic kvs))) = some (.dic kvs) := (rfl)
@[simp] theorem dicO_t : dicO (some (some (.dit kts))) = some (.dit kts) := (rfl)
@[simp] theorem r_sDP : sDP i fv fk e = rb (fv e) fun d e => ro (dicO (e[i]?)) fun _ => rb (fk e) fun k e => ro (dicO (e[i]?)) fun m => ro (dPut m k d) fun m' => .ok .nx (e.set i (some m')) := by
  show rb (fv e) _ = _
  congr 1; funext d e
  show _ = ro (dicAt i e) _
  cases dicAt i e with
  | none => rfl
  | some m =>
    show rb (fk e) _ = _
    simp only [ro_some]
    congr 1; funext k e
    show _ = ro (dicAt i e) _
    cases dicAt i e with
    | none => rfl
    | some m => simp only [ro_some]; cases dPut m k d <;> rfl
@[simp] theorem isDic_k : isDic (.dic kvs) = some () := (rfl)
@[simp] theorem isDic_t : isDic (.dit kts) = some () := (rfl)
@[simp] theorem gDNewK_v : gDNewK ds = some (.dic []) := (rfl)
@[simp] theorem gDNewT_v : gDNewT ds = some (.dit []) := (rfl)
@[simp] theorem dok_k : dok (.dic []) = true := (rfl)
@[simp] theorem dok_t : dok (.dit []) = true := (rfl)
@[simp] theorem gTup1_l : gTup1 [.lst ds] = some (.tup ds) := (rfl)
@[simp] theorem keyD_i {j : Int} : keyD (.int j) = some (.inl j) := (rfl)
@[simp] theorem keyD_s {x : Str} : keyD (.str x) = some (.inr x) := (rfl)
@[simp] theorem dLook_k {y : D} : dLook (.dic kvs) y = (keyD y).map fun k => dval kvs k := (rfl)
@[simp] theorem dLook_t : dLook (.dit kts) (.tup ds) = (keysD ds).map fun k => dval kts k := (rfl)
@[simp] theorem gSortSet_l : gSortSet [.lst ds] = match asInts ds with | some ns => if ns.length ≤ 4000 then some (.lst ((dsI ns).map .int)) else none | none => none := (rfl)
@[simp] theorem gSorted_l : gSorted [.lst ds] = (asInts ds).map fun ns => .lst ((srtI ns).map .int) := (rfl)
@[simp] theorem gSorted_k : gSorted [.dic kvs] = (keysI kvs).map fun ns => .lst ((srtI ns).map .int) := (rfl)
end
end MV
namespace MV
open PySem PySem.Spec PyProof.Rows L2
def eChain (g g' : D → D → Option D) (fa fb fc : M D) : M D := bnd fa fun x => bnd fb fun y => bnd (lift (g x y)) fun z => bnd (lift (asB z)) fun k => if k then bnd fc fun w => lift (g' y w) else ret (.bl false)
section
variable {X : Cx} {cf : Cf} {W : WX} {ca cb cc : Cls} {n1 n2 n3 : Bool} {a b c : Expr} {ta tb tc : TE} {fa fb fc : M D} {pos : Pos} {g g' : Int → Int → Bool}
theorem sd_chain (ha : Sd cf W ca n1 ta fa) (hb : Sd cf W cb n2 tb fb) (hc : Sd cf W cc n3 tc fc) : Sd cf W .V true (tChain (rI0 fun i j => .bl (g i j)) (rI0 fun i j => .bl (g' i j)) ta tb tc) (eChain (gI2 fun i j => some (.bl (g i j))) (gI2 fun i j => some (.bl (g' i j))) fa fb fc) := by
  refine Sd.mk (fun R Hs env σ H F wf r d env' q Q k => ?_) (fun R Hs env σ H F wf r x env' q Q k => ?_)
  · obtain ⟨d1, env1, q1, qa⟩ := bnd_ok q
    obtain ⟨d2, env2, q2, qb⟩ := bnd_ok qa
    obtain ⟨d3, env3, q3, qc⟩ := bnd_ok qb
    obtain ⟨q3, e3⟩ := lift_ok q3
    obtain ⟨i, j, rfl, rfl, q3⟩ := gI2_some q3
    cases q3
    obtain ⟨b1, env4, q4, qd⟩ := bnd_ok qc
    obtain ⟨q4, e4⟩ := lift_ok q4
    cases q4
    subst e4 e3
    refine ha.ok r q1 fun v1 Hs1 H1 s1 r1 p1 _ => hb.ok r1 q2 fun v2 Hs2 H2 s2 r2 p2 _ => ⟨i, j, p1.int_inv, p2.int_inv, g i j, rfl, ?_⟩
    cases hg : g i j with
    | false =>
      rw [hg] at qd
      cases qd
      exact k _ Hs2 H2 (s1.trans s2) r2 (.bl _) fun _ _ => .bl _
    | true =>
      rw [hg] at qd
      obtain ⟨d5, env5, q5, q6⟩ := bnd_ok qd
      obtain ⟨q7, e6⟩ := lift_ok q6
      subst e6
      obtain ⟨i2, j2, e7, rfl, q8⟩ := gI2_some q7
      cases e7
      cases q8
      exact hc.ok r2 q5 fun v3 Hs3 H3 s3 r3 p3 _ => ⟨_, _, p2.int_inv, p3.int_inv, k _ Hs3 H3 ((s1.trans s2).trans s3) r3 (.bl _) fun _ _ => .bl _⟩
  · rcases bnd_ex q with q | ⟨d1, env1, q1, qa⟩
    · exact ha.exn r q fun Hs' H' s' r' => k Hs' H' s' r'
    · rcases bnd_ex qa with q | ⟨d2, env2, q2, qb⟩
      · exact ha.ok r q1 fun v1 Hs1 H1 s1 r1 p1 _ => hb.exn r1 q fun Hs2 H2 s2 r2 => k Hs2 H2 (s1.trans s2) r2
      · rcases bnd_ex qb with q | ⟨d3, env3, q3, qc⟩
        · exact (lift_ex q).elim
        · obtain ⟨q3, e3⟩ := lift_ok q3
          obtain ⟨i, j, rfl, rfl, q3⟩ := gI2_some q3
          cases q3
          rcases bnd_ex qc with q | ⟨b1, env4, q4, qd⟩
          · exact (lift_ex q).elim
          · obtain ⟨q4, e4⟩ := lift_ok q4
            cases q4
            subst e4 e3
            refine ha.ok r q1 fun v1 Hs1 H1 s1 r1 p1 _ => hb.ok r1 q2 fun v2 Hs2 H2 s2 r2 p2 _ => ⟨i, j, p1.int_inv, p2.int_inv, g i j, rfl, ?_⟩
            cases hg : g i j with
            | false => rw [hg] at qd; cases qd
            | true =>
              rw [hg] at qd
              rcases bnd_ex qd with q | ⟨d5, env5, q5, q6⟩
              · exact hc.exn r2 q fun Hs3 H3 s3 r3 => k Hs3 H3 ((s1.trans s2).trans s3) r3
              · exact (lift_ex q6).elim
theorem st_chain {op op' : CmpOp} (ho : OpR X (compareOp op) (rI0 fun i j => .bl (g i j))) (ho' : OpR X (compareOp op') (rI0 fun i j => .bl (g' i j))) (ha : SE X cf W ca n1 a ta fa) (hb : SE X cf W cb n2 b tb fb) (hc : SE X cf W cc n3 c tc fc)
    (hm : lastMarks [op, op'] [b, c] = false := by with_unfolding_all rfl) : ST X cf W (.Compare a [op, op'] [b, c] pos) (tTest (tChain (rI0 fun i j => .bl (g i j)) (rI0 fun i j => .bl (g' i j)) ta tb tc)) (tB (eChain (gI2 fun i j => some (.bl (g i j))) (gI2 fun i j => some (.bl (g' i j))) fa fb fc)) :=
  ⟨pt_chain ho ho' ha.p hb.p hc.p hm, sdt_test (sd_chain ha.s hb.s hc.s)⟩
end
section
variable {e : PEnv} {fa fb fc : M D} {g g' : D → D → Option D}
@[simp] theorem r_eChain : eChain g g' fa fb fc e = rb (fa e) fun x e => rb (fb e) fun y e => rb (lift (g x y) e) fun z e => rb (lift (asB z) e) fun k e => if k then rb (fc e) fun w e => lift (g' y w) e else .ok (.bl false) e := by
  show rb (fa e) _ = _
  congr 1; funext x e
  show rb (fb e) _ = _
  congr 1; funext y e
  show rb _ _ = _
  congr 1; funext z e
  show rb _ _ = _
  congr 1; funext k e; cases k <;> rfl
end
end MV
namespace MV
open PySem PySem.Spec PyProof.Rows L2
section
variable {X : Cx} {cf : Cf} {W : WX} {c : Cls} {n n1 n2 : Bool}
def sSetML (i : Nat) (fa : M (List D)) : M Fl := bnd fa fun ds => fun e => if ds.length ≤ LIM then .ok .nx (e.set i (some (.lst ds))) else .stuck
def sSetMC (i : Nat) (fa : M (List D)) : M Fl := fun e => match lstAt i e with
  | none => .stuck
  | some _ => bnd fa (fun ds => fun e => match lstAt i e with
    | some ds0 => if ds0.length + ds.length ≤ LIM then .ok .nx (e.set i (some (.lst (ds0 ++ ds)))) else .stuck
    | none => .stuck) e
theorem SdA.bind {ta : TA} {fa : M (List D)} {g : List D → M Fl} {R : Rs} {Hs : Hp} {env : PEnv} {σ : L2.St} {H : Hp} {F : Nat → List Addr} {wf : List Addr} {D : Ends} {Q : List V → Hp → Prop} (s : SdA cf W c ta fa) (r : Rel cf R Hs env σ H F wf) (hp : Post cf W R Hs D (bnd fa g env))
    (hx : ∀ x σ' H', W x none σ' H' → W x none σ' H')
    (k : ∀ ds env1 vs Hs1 H1, Stp cf wf env Hs H env1 Hs1 H1 → Rel cf R Hs1 env1 σ H1 F wf → RpL cf.K true (rg c R.H0 Hs1 H H1 wf) vs ds → Post cf W R Hs D (g ds env1) → Q vs H1) : ta σ H Q := by
  cases q : fa env with
  | ok ds env1 => exact s.ok r q fun vs Hs1 H1 s1 r1 p1 => k ds env1 vs Hs1 H1 s1 r1 p1 (by rw [bnd_of_ok q] at hp; exact hp)
  | ex x env1 => exact s.exn r q fun Hs1 H1 s1 r1 => by rw [bnd_of_ex q] at hp; exact hp Hs1 σ H1 F wf s1.ex r1
  | stuck => rw [bnd_of_stuck q] at hp; exact hp.elim
end
section
variable {P : Program} {w : World} {K : PySem.W.Frag} {mg : Str → Option Value} {base : Heap}
end
section
variable {e : PEnv} {i : Nat} {r : M (List D)}
@[simp] theorem r_sSetML : sSetML i r e = rb (r e) fun ds e => if ds.length ≤ LIM then .ok .nx (e.set i (some (.lst ds))) else .stuck := (rfl)
@[simp] theorem r_sSetMC : sSetMC i r e = ro (lstO (e[i]?)) fun _ => rb (r e) fun ds e => ro (lstO (e[i]?)) fun ds0 => if ds0.length + ds.length ≤ LIM then .ok .nx (e.set i (some (.lst (ds0 ++ ds)))) else .stuck := by
  unfold sSetMC
  show _ = ro (lstAt i e) _
  cases lstAt i e with
  | none => rfl
  | some ds =>
    show rb (r e) _ = _
    simp only [ro_some]
    congr 1; funext d e
    show _ = ro (lstAt i e) _
    cases lstAt i e <;> rfl
end
end MV
namespace MV
open PySem L2
open PySem.W (alike alikeAll dataLt minD AlikeAll AllAlike Sortable dataLe EachIs)
def D.P (d : D) : PyData := d.toP.getD .none
mutual
theorem toP_inj : ∀ {a b : D} {p : PyData}, a.toP = some p → b.toP = some p → a = b
  | .non, b, p, h, h2 => by cases h; cases b <;> first | rfl | (simp [D.toP] at h2)
  | .bl x, b, p, h, h2 => by cases h; cases b <;> first | (simp [D.toP] at h2; subst h2; rfl) | (simp [D.toP] at h2)
  | .int x, b, p, h, h2 => by cases h; cases b <;> first | (simp [D.toP] at h2; subst h2; rfl) | (simp [D.toP] at h2)
  | .str x, b, p, h, h2 => by cases h; cases b <;> first | (simp [D.toP] at h2; subst h2; rfl) | (simp [D.toP] at h2)
  | .lst xs, b, p, h, h2 => by
    rw [D.toP, Option.map_eq_some_iff] at h
    obtain ⟨ps, h, rfl⟩ := h
    cases b with
    | lst ys =>
      rw [D.toP, Option.map_eq_some_iff] at h2
      obtain ⟨qs, h2, e⟩ := h2
      cases e
      rw [toPs_inj h h2]
    | _ => simp [D.toP] at h2
  | .tup xs, b, p, h, h2 => by
    rw [D.toP, Option.map_eq_some_iff] at h
    obtain ⟨ps, h, rfl⟩ := h
    cases b with
    | tup ys =>
      rw [D.toP, Option.map_eq_some_iff] at h2
      obtain ⟨qs, h2, e⟩ := h2
      cases e
      rw [toPs_inj h h2]
    | _ => simp [D.toP] at h2
  | .dic _, b, p, h, h2 => by cases h
  | .dit _, b, p, h, h2 => by cases h
  | .exc _, b, p, h, h2 => by cases h
theorem toPs_inj : ∀ {a b : List D} {p : List PyData}, toPs a = some p → toPs b = some p → a = b
  | [], b, p, h, h2 => by
    cases h
    cases b with
    | nil => rfl
    | cons y ys => rw [toPs] at h2; split at h2 <;> cases h2
  | x :: xs, b, p, h, h2 => by
    rw [toPs] at h
    split at h
    · rename_i p1 p2 e1 e2
      cases h
      cases b with
      | nil => cases h2
      | cons y ys =>
        rw [toPs] at h2
        split at h2
        · rename_i q1 q2 f1 f2
          cases h2
          rw [toP_inj e1 f1, toPs_inj e2 f2]
        · cases h2
    · cases h
end
theorem P_of {d : D} {p : PyData} (h : d.toP = some p) : d.P = p := by unfold D.P; rw [h]; rfl
theorem toPs_all : ∀ {l : List D}, (∀ d ∈ l, d.toP.isSome = true) → toPs l = some (l.map D.P)
  | [], _ => rfl
  | d :: l, h => by
    have h1 := h d List.mem_cons_self
    rw [toPs, toPs_all fun x m => h x (List.mem_cons_of_mem _ m)]
    cases q : d.toP with
    | none => rw [q] at h1; cases h1
    | some p => rw [List.map_cons, P_of q]
def okO (l : List D) : Bool := l.all fun a => a.toP.isSome && decide (a.P.depth ≤ 60) && (match a with | .non => false | _ => true) && l.all fun b => alike a.P b.P
theorem okO_some {l : List D} (h : okO l = true) : ∀ d ∈ l, d.toP.isSome = true := fun d m => by
  have := List.all_eq_true.mp h d m
  rw [Bool.and_eq_true, Bool.and_eq_true, Bool.and_eq_true] at this
  exact this.1.1.1
theorem okO_alike {l : List D} (h : okO l = true) : AlikeAll (l.map D.P) := by
  constructor
  · intro x hx y hy
    obtain ⟨a, ha, rfl⟩ := List.mem_map.mp hx
    obtain ⟨b, hb, rfl⟩ := List.mem_map.mp hy
    have := List.all_eq_true.mp h a ha
    rw [Bool.and_eq_true] at this
    exact List.all_eq_true.mp this.2 b hb
  · intro x hx e
    obtain ⟨a, ha, rfl⟩ := List.mem_map.mp hx
    have := List.all_eq_true.mp h a ha
    rw [Bool.and_eq_true, Bool.and_eq_true, Bool.and_eq_true] at this
    obtain ⟨⟨⟨s, _⟩, n⟩, _⟩ := this
    cases q : a.toP with
    | none => rw [q] at s; cases s
    | some p =>
      rw [P_of q] at e
      subst e
      have := toP_inj (b := .non) q rfl
      subst this
      cases n
theorem depth_le : ∀ (l : List D), (∀ a ∈ l, a.P.depth ≤ 60) → PyData.depthAll (l.map D.P) ≤ 60
  | [], _ => by simp [PyData.depthAll]
  | a :: l, h => by
    rw [List.map_cons, PyData.depthAll]
    have := h a List.mem_cons_self
    have := depth_le l fun x m => h x (List.mem_cons_of_mem _ m)
    omega
theorem okO_depth {l : List D} (h : okO l = true) : PyData.depthAll (l.map D.P) ≤ 60 := depth_le l fun a ha => by
  have := List.all_eq_true.mp h a ha
  rw [Bool.and_eq_true, Bool.and_eq_true, Bool.and_eq_true] at this
  exact of_decide_eq_true this.1.1.2
def ltD (a b : D) : Bool := dataLt a.P b.P
section
variable {X : Cx} {cf : Cf} {W : WX} {c ca cb : Cls} {n n1 n2 : Bool} {a b : Expr} {ta tb : TE} {fa fb : M D} {pos : Pos}
end
def mnD (d : D) (ds : List D) : D := ds.foldl (fun a y => if ltD y a then y else a) d
def gMinD : List D → Option D
  | [.lst (d :: ds)] => if okO (d :: ds) then some (mnD d ds) else none
  | _ => none
def gMinX : List D → Option D
  | [.lst []] => some .non
  | x => gMinD x
theorem mnD_mem (d : D) : ∀ (ds : List D), mnD d ds ∈ d :: ds := by
  intro ds
  unfold mnD
  induction ds generalizing d with
  | nil => exact List.mem_cons_self
  | cons y ds ih =>
    rw [List.foldl_cons]
    have := ih (if ltD y d then y else d)
    rcases List.mem_cons.mp this with h | h
    · rw [h]; split
      · exact List.mem_cons_of_mem _ List.mem_cons_self
      · exact List.mem_cons_self
    · exact List.mem_cons_of_mem _ (List.mem_cons_of_mem _ h)
theorem mnD_P (d : D) (ds : List D) : (mnD d ds).P = minD d.P (ds.map D.P) := by
  unfold mnD minD
  induction ds generalizing d with
  | nil => rfl
  | cons y ds ih =>
    rw [List.foldl_cons, List.map_cons, List.foldl_cons, ih]
    congr 1
    unfold ltD
    split <;> rfl
def rMinD (K : PySem.W.Frag) : List V → Hp → VK → Prop := fun vs H Q => ∃ (a : Addr) (xs : List V) (p : PyData) (ps : List PyData), vs = [.ref a] ∧ SqL K H a xs ∧ DpAll K H xs (p :: ps) ∧ AlikeAll (p :: ps) ∧ PyData.depthAll (p :: ps) ≤ 60 ∧ minD p ps ∈ p :: ps ∧ ∀ (i : Nat) (x : V), xs[i]? = some x → (p :: ps)[i]? = some (minD p ps) → Q x H
def rMinX (K : PySem.W.Frag) : List V → List V → Hp → VK → Prop := fun vs zs H Q => ∃ z, zs = [z] ∧ (rMinD K vs H Q ∨ ∃ a, vs = [.ref a] ∧ SqL K H a [] ∧ Q z H)
theorem vals_at {xs : List V} {us : List Value} (h : Vals xs us) : ∀ {i : Nat} {v : Value}, us[i]? = some v → ∃ x, xs[i]? = some x ∧ RelV x v := by
  induction h with
  | nil => intro i v e; simp at e
  | cons hr _ ih =>
    intro i v e
    cases i with
    | zero => exact ⟨_, rfl, by simp at e; subst e; exact hr⟩
    | succ i => exact ih e
theorem min_is {h h' : Heap} {us : List Value} {p : PyData} {ps : List PyData} {as bs : List Addr} {i : Nat} {v : Value} (hr : ReadsAll h us (p :: ps) as) (al : AlikeAll (p :: ps)) (hm : minD p ps ∈ p :: ps) (hv : us[i]? = some v) (hi : i < (p :: ps).length) (hk : ∀ b o, h.get? b = some o → h'.get? b = some o) (r : Reads h' v (minD p ps) bs) : (p :: ps)[i]? = some (minD p ps) := by
  obtain ⟨bs2, r2, _⟩ := PySem.W.readsAll_at hr i v hv
  have r2 := PyProof.Rows.Reads.keeps hk r2
  rw [List.getD_eq_getElem?_getD, List.getElem?_eq_getElem hi] at r2
  rw [List.getElem?_eq_getElem hi]
  exact congrArg some (PySem.W.alike_unique _ _ v _ _ (al.1 _ (List.getElem_mem hi) _ hm) r2 r)
theorem readsAll_lenL {h : Heap} : ∀ {vs : List Value} {xs : List PyData} {as : List Addr}, ReadsAll h vs xs as → vs.length = xs.length
  | _, _, _, .nil => rfl
  | _, _, _, .cons _ r => by rw [List.length_cons, List.length_cons, readsAll_lenL r]
theorem cr_minX {X : Cx} (hc : X.calm = true) (hu : X.A.units + 64 < cLine) : CallRK X (.builtin "min") [Str.ofString "default"] (rMinX X.K) := by
  intro pins s σ H vs zs us ws Q I r rz h
  obtain ⟨z, rfl, h⟩ := h
  cases rz with
  | cons r1 rt =>
  rename_i wz wt
  cases rt
  rcases h with h | ⟨a, rfl, hs, q⟩
  · obtain ⟨a, xs, p, ps, rfl, hs, hd, al, dp, hm, q⟩ := h
    obtain ⟨its, rv, hl, _⟩ := I.list hs
    rw [Vals.ref1 r]
    obtain ⟨as, hr⟩ := Dp.readsAll I _ _ _ hd rv
    refine PySem.W.min_list_default (d := wz) (I.ok.hd hc) hl.isList (by simpa using hr) al (by omega) (fun e => by cases e) fun y ys i v h' tk bs e hv rr hk => ?_
    cases e
    have hv : its[i]? = some v := by simpa using hv
    obtain ⟨x, hx, rx⟩ := vals_at rv hv
    have hi : i < (p :: ps).length := by
      rw [← readsAll_lenL hr]; exact (List.getElem?_eq_some_iff.mp hv).1
    exact ⟨x, H, I.kept hk, rx, q i x hx (min_is hr al hm hv hi hk rr)⟩
  · obtain ⟨its, rv, hl, _⟩ := I.list hs
    rw [Vals.ref1 r]
    cases rv
    exact PySem.W.min_list_default (d := wz) (xs := []) (I.ok.hd hc) hl.isList .nil ⟨(fun x m => nomatch m), (fun x m => nomatch m)⟩ (by simp [PyData.depthAll]; omega) (fun _ h' tk hk => ⟨z, H, I.kept hk, r1, q⟩) fun y ys i v h' tk bs e => by cases e
section
variable {X : Cx} {cf : Cf} {W : WX} {c ca cb : Cls} {n n1 n2 : Bool} {e : Expr} {es : List Expr} {tA : TA} {fA : M (List D)} {p pos kpos npos : Pos} {j : Nat}
end
end MV
namespace MV
open PySem PySem.Spec PyProof.Rows L2
section
variable {X : Cx} {cf : Cf} {W : WX} {c : Cls} {n n1 n2 : Bool}
structure ItOkN (K : PySem.W.Frag) (H0 : Hp) (J : It) (G1 Hs1 : Hp) (ds : List D) : Prop where
  go : ∀ i H, i < ds.length → Ex G1 H → J.go i H
  stop : ∀ H, Ex G1 H → J.stop ds.length H
  yld : ∀ i H x H', Ex G1 H → i < ds.length → J.yld i H x H' → Ex H H' ∧ ∀ G, Ex Hs1 G → Ex G H → ∃ d, ds[i]? = some d ∧ Rp K true (rs G H0) x d
def SdIN (cf : Cf) (W : WX) (wi : TI) (fi : M (List D)) : Prop :=
  ∀ (R : Rs) (Hs : Hp) (env : PEnv) (σ : L2.St) (H : Hp) (F : Nat → List Addr) (wf : List Addr), Rel cf R Hs env σ H F wf → ∀ Rk : It → Hp → Prop,
    match fi env with
    | .ok ds env' => (∀ J G1 Hs' H', Stp cf wf env Hs H env' Hs' H' → Rel cf R Hs' env' σ H' F wf → Ex G1 (rm H' wf) → ItOkN cf.K R.H0 J G1 Hs' ds → Rk J H') → wi σ H Rk
    | .ex x env' => (∀ Hs' H', Stp cf wf env Hs H env' Hs' H' → Rel cf R Hs' env' σ H' F wf → W (cf.cv x) none σ H') → wi σ H Rk
    | .stuck => True
structure SIN (X : Cx) (cf : Cf) (W : WX) (tg iter : Expr) (wi : TI) (fi : M (List D)) : Prop where
  p : PI X tg iter wi
  s : SdIN cf W wi fi
def SdGN (cf : Cf) (is : List Nat) (g : TG) (tg : D → M Unit) : Prop :=
  ∀ (R : Rs) (Hs : Hp) (env : PEnv) (σ : L2.St) (H : Hp) (F : Nat → List Addr) (wf : List Addr), Rel cf R Hs env σ H F wf → ∀ (d : D) (v : V), Rp cf.K true (rs Hs R.H0) v d → ∀ Q : L2.St → Hp → Prop,
    match tg d env with
    | .ok _ env' => (∀ σ', Rel cf R Hs env' σ' H F wf → wipe σ' is = wipe σ is → (∀ j, j ∉ is → env'[j]? = env[j]?) → Q σ' H) → g v σ H Q
    | .ex _ _ => False
    | .stuck => True
structure SGtN (X : Cx) (cf : Cf) (is : List Nat) (tg : Expr) (g : TG) (f : D → M Unit) : Prop where
  p : PG X tg g
  s : SdGN cf is g f
end
section
variable {X : Cx} {cf : Cf} {W : WX} {ca cb : Cls} {n1 n2 : Bool} {a b : Expr} {ta tb : TE} {fa fb : M D} {pos : Pos}
end
end MV
namespace MV
open PySem PySem.Spec PyProof.Rows L2
section
variable {K : PySem.W.Frag} {Hn H : Hp}
theorem Own.sc_nil {F : List Addr} {v : V} {d : D} (h : Own K Hn H F v d) (hs : d.sc = true) : F = [] := by
  cases h with
  | leaf _ => rfl
  | lst _ _ => cases hs
  | tup _ _ => cases hs
  | dic _ _ _ => cases hs
  | dit _ _ _ => cases hs
theorem OwnL.init : ∀ {F : List Addr} {vs : List V} {ds : List D} {v : V} {d : D}, OwnL K Hn H F (vs ++ [v]) (ds ++ [d]) → vs.length = ds.length → d.sc = true → OwnL K Hn H F vs ds
  | _, [], [], v, d, h, _, hs => by
    have h : OwnL K Hn H _ [v] [d] := h
    cases h with
    | cons h1 h2 =>
      cases h2
      rw [h1.sc_nil hs]
      exact .nil
  | _, _ :: _, [], v, d, h, hl, _ => by cases hl
  | _, [], _ :: _, v, d, h, hl, _ => by cases hl
  | _, x :: xs, y :: ys, v, d, h, hl, hs => by
    have h : OwnL K Hn H _ (x :: (xs ++ [v])) (y :: (ys ++ [d])) := h
    cases h with
    | cons h1 h2 => exact .cons h1 (OwnL.init h2 (by simpa using hl) hs)
theorem OwnL.set : ∀ {F : List Addr} {vs : List V} {ds : List D} (j : Nat) {v : V} {d d0 : D}, OwnL K Hn H F vs ds → ds[j]? = some d0 → d0.sc = true → Rp K true Hn v d → OwnL K Hn H F (vs.set j v) (ds.set j d)
  | _, _, _, j, v, d, d0, .nil, h, _, _ => by simp at h
  | _, _, _, 0, v, d, d0, .cons h1 h2, h, hs, r => by
    simp at h
    subst h
    have e := h1.sc_nil hs
    subst e
    exact OwnL.cons (F := []) (.leaf r) h2
  | _, _, _, j + 1, v, d, d0, .cons h1 h2, h, hs, r => .cons h1 (OwnL.set j h2 (by simpa using h) hs r)
end
section
variable {X : Cx} {cf : Cf} {W : WX} {c : Cls} {n n1 n2 : Bool}
end
end MV
namespace MV
open PySem PySem.Spec PyProof.Rows L2
structure FnQ (P : Program) (w : World) (K : PySem.W.Frag) (mg : Str → Option Value) (base : Heap) (k : Nat) (f : Addr) (fd : FuncData) (ps : List Str) (sp : Sp) : Prop where
  len : ∀ vs H Q E, sp vs H Q E → vs.length = ps.length
  run : ∀ (A : Around) (outer : List Env) (s : Shared) (H : Hp) (args : Args) (us : List Value) (vs : List V) (Q : VK) (E : XK), L2H.RoomH k A → Env0 P w K mg base A outer s H →
    BindsTo s fd args (ps.zip us) → Vals vs us → sp vs H Q E → codeAny (model P w) A (.call (.ref f) args) (CR (L2N.CX P w) outer P w H s Q E) s
abbrev cxQ (P : Program) (w : World) (K : PySem.W.Frag) (mg : Str → Option Value) (base : Heap) (N : List Str) (qual : Str) (scope : Scope) (f : Addr) (cd : Value) (A : Around) (outer : List Env) (s : Shared) (H : Hp) (E : XK) : Cx :=
  { cxOf (L2N.CX P w) P w K mg base N qual scope f cd A outer s H E with calm := false }
theorem env0_mark {P : Program} {w : World} {K : PySem.W.Frag} {mg : Str → Option Value} {base : Heap} {A : Around} {outer : List Env} {s : Shared} {H : Hp} (e : Env0 P w K mg base A outer s H) : Env0 P w K mg base { A with handled := none } outer s H :=
  ⟨e.frames, e.mod, e.bs, e.bsz, e.funs, e.frf, e.hok, e.bare⟩
section
variable {P : Program} {w : World} {K : PySem.W.Frag} {mg : Str → Option Value} {base : Heap}
theorem okQ {x qual : Str} {st : Stmt} {f : Addr} {fd : FuncData} {N ps : List Str} {k : Nat} {sp : Sp} (F : Fun K x qual st f fd) (S : FnScope N ps (defScope st)) (len : ∀ vs H Q E, sp vs H Q E → vs.length = ps.length)
    (hb : ∀ (cdv : Value) (A : Around) (outer : List Env) (s : Shared) (H : Hp) (vs : List V) (Q : VK) (E : XK), L2H.RoomH k (A.deeper (envOfC qual (defScope st) s.heap.objs.size f cdv)) → sp vs H Q E →
      ∃ t, PSs (cxQ P w K mg base N qual (defScope st) f cdv A outer s H E) (defBody st) t ∧ t { nx := fun _ H' => Q .non H', rt := Q } (L2.start N vs) H) : FnQ P w K mg base (k + 1) f fd ps sp := by
  obtain ⟨oc, od, kV, doc, pm, an, cdv, ct, osl, e, lk, hcd⟩ := F.ex
  subst e
  refine ⟨len, fun A outer s H args us vs Q E hr e0 bt r hsp => ?_⟩
  have hl := len _ _ _ _ hsp
  have kx : K.In s.heap := e0.mod.kin.keeps fun b o e => (e0.bs b o e).1
  have nl : s.heap.NoLimit := e0.mod.nolimit.keeps fun b o e => (e0.bs b o e).1
  have kinds : ∀ y ∈ ps.zip us, (defScope st).names.lookup y.1 = some .local ∨ ((defScope st).names.lookup y.1 = some .cell ∧
      ((cellsFrom (s.heap.objs.size + 1) (defScope st).names []).lookup y.1).isSome = true) := fun ⟨n, v⟩ hy => by
    cases S.par n (List.of_mem_zip hy).1 with
    | inl q => exact .inl q
    | inr q => exact .inr ⟨q, PySem.W.cellsFrom_some _ _ _ (.inl q)⟩
  refine codeAny_call_function hr.depth (kx _ _ lk) rfl S.co S.gen rfl (PySem.W.codeRec_of kx hcd) (bt _ _ _ _ ?_)
  refine wpAny_newFunctionEnv_cells S.kind kinds fun env he s1 x => ?_
  subst he
  refine ⟨nl.keeps x.toInCall.keep, codeAny_func ?_⟩
  obtain ⟨t, ht, hq⟩ := hb cdv A outer s H vs Q E (hr.deeper _) hsp
  have I0 : Inv (cxOf (L2N.CX P w) P w K mg base N qual (defScope st) f cdv { A with handled := none } outer s H E) [] (L2.start N vs) H s1 := inv_start S rfl (env0_mark e0) hl r x
  have ok := I0.ok
  have I : Inv (cxQ P w K mg base N qual (defScope st) f cdv A outer s H E) [] (L2.start N vs) H s1 :=
    ⟨⟨ok.mod, ok.kind, ok.glob, ok.blt, ok.above, ok.inj, ok.has, ok.cab, (fun z => Bool.noConfusion (show false = true from z)), Around.frames_deeper e0.frames, ok.stk, ok.exf, ok.bs, ok.bsz, ok.noex, ok.exfs, ok.funs, ok.frf⟩,
      I0.os, I0.bare, I0.base, I0.loc, I0.cell, I0.free, I0.freeC, I0.pin, I0.hok, I0.len⟩
  refine wpAny_mono (ht.run [] s1 (L2.start N vs) H _ I hq) (fun fl s' hs => ?_) fun e s' hs => hs
  cases fl with
  | ret u => obtain ⟨v, σ', H', J, rv, q⟩ := hs; exact ⟨v, H', J.os, J.bare, J.base, J.hok, rv, q⟩
  | next => obtain ⟨σ', H', J, q⟩ := hs; exact ⟨.non, H', J.os, J.bare, J.base, J.hok, rfl, q⟩
  | brk => obtain ⟨_, _, _, q⟩ := hs; exact q.elim
  | cont => obtain ⟨_, _, _, q⟩ := hs; exact q.elim
theorem fn_Hot {x qual : Str} {st : Stmt} {f : Addr} {fd : FuncData} (N ps : List Str) (mN mP : Nat) {k : Nat} (cf : Cf) (g : M Fl) (hN : N.length = mN) (hP : ps.length = mP) (F : Fun K x qual st f fd) (S : FnScope N ps (defScope st)) (hK : cf.K = K) (hk : ∀ i, i < ps.length → cf.kd i = .S)
    (hbody : ∀ (cdv : Value) (A : Around) (outer : List Env) (s : Shared) (H : Hp) (E : XK), L2H.RoomH k (A.deeper (envOfC qual (defScope st) s.heap.objs.size f cdv)) → L2N.Takes (cxQ P w K mg base N qual (defScope st) f cdv A outer s H E) (fun cls d _ H => E cls d H) →
      PassesOwn (model P w) (A.deeper (envOfC qual (defScope st) s.heap.objs.size f cdv)) (envOfC qual (defScope st) s.heap.objs.size f cdv) (cxQ P w K mg base N qual (defScope st) f cdv A outer s H E).xe →
      SSs (cxQ P w K mg base N qual (defScope st) f cdv A outer s H E) cf (fun cls d _ H => E cls d H) (defBody st) g) :
    FnQ P w K mg base (k + 1) f fd ps (spP K cf.cv mP (runF mN g)) := by
  subst hN hP
  refine okQ F S (fun vs H Q E h => h.1) (fun cdv A outer s H vs Q E hr h => ?_)
  obtain ⟨hl, ds, hd, h⟩ := h
  obtain ⟨t, p, sd⟩ := hbody cdv A outer s H E hr (L2N.takes_of rfl rfl rfl rfl) (passes_of rfl)
  refine ⟨t, p, ?_⟩
  have r : Rel cf ⟨H, none⟩ H (envOf N.length ds) (L2.start N vs) H (fun _ => []) [] :=
    { len := env_len hd.length
      exs := Ex.refl _
      ex0 := fun a o h _ => h
      dom0 := fun a h => h
      slot := fun i d q => by
        have q := envOf_get q
        obtain ⟨v, h1, h2⟩ := hd.get q
        refine ⟨v, start_get h1, ?_⟩
        rw [hk i (by rw [← hl, hd.length]; exact (List.getElem?_eq_some_iff.mp q).1), hK]
        exact h2
      nod := fun _ => List.nodup_nil
      dis := fun _ _ _ _ m => by cases m
      fdom := fun _ _ m => by cases m
      uns := fun _ _ m => by cases m
      new := fun _ _ m => by cases m
      volw := fun _ _ _ m => by cases m
      volb := fun _ _ _ m => by cases m
      wdom := fun _ m => by cases m
      ior := fun p h => by cases h }
  refine sd _ _ _ _ _ _ _ r _ ?_
  unfold runF at h
  have exH : ∀ {Hs' H' : Hp} {env' : PEnv} {σ' : L2.St} {F' : Nat → List Addr} {wf' : List Addr}, Rel cf ⟨H, none⟩ Hs' env' σ' H' F' wf' → Ex H H' := fun r' a o ha => r'.exs a o (r'.ex0 a o ha (fun z => by cases z))
  cases q : g (envOf N.length ds) with
  | stuck => rw [q] at h; exact h.elim
  | ex c e =>
    rw [q] at h
    exact fun Hs' σ' H' F' wf' _ r' => h H' (exH r')
  | ok fl e =>
    rw [q] at h
    cases fl with
    | nx => exact fun Hs' σ' H' F' wf' _ r' => h .non H' (exH r') .non
    | rt d => exact fun v Hs' σ' H' F' wf' _ r' pv => h v H' (exH r') (by
        rw [← hK]
        exact pv.mono fun a o ha => by
          have ha : rs (rm H' wf') H a = some o := ha
          cases z : H a with
          | none => rw [rs_none z] at ha; rw [nw_none z]; exact rm_sub _ _ a o ha
          | some u => rw [rs_some z] at ha; cases ha)
    | bk => exact h.elim
    | ct => exact h.elim
end
section
variable {X : Cx} {cf : Cf} {W : WX}
theorem se_callHot {F : List D → FR} {m k : Nat} {f : Addr} {fd : FuncData} {ps : List Str} {x : Str} {e : Expr} {es : List Expr} {ta : TA} {fa : M (List D)} {p pos : Pos} (hK : cf.K = X.K) (tk : L2N.Takes X W) (G : FnQ X.prog X.w X.K X.mg X.base k f fd ps (spP X.K cf.cv m F)) (hr : L2H.RoomH k X.A) (hg : Gl X x) (hm : X.mg x = some (.ref f)) (hkp : PySem.W.keepIn X.K (.ref f) = true) (hb : Binds X.K fd ps []) (ha : SA X cf W .B (e :: es) ta fa) (hl : ∀ ds env env', fa env = .ok ds env' → ds.length = m)
    (hdb : (x == ("__debug__" : Str)) = false := by decide) (he : starEach (e :: es) X.env = (false, eval e X.env) :: starEach es X.env := by rfl) (hpl : (backTo pos (starEach es X.env)).any (·.1) = false := by rfl) :
    SE X cf W .V true (.Call (.Name x p) (e :: es) [] pos) (tCallS (spP cf.K cf.cv m F) (WE W) ta) (eCall F fa) := by
  refine ⟨?_, sd_call ha.s hl⟩
  rw [hK]
  refine ⟨fun pins s σ H Q I h => ?_⟩
  refine wpAny_Call_Name_kw (ld_glob I hg hm ?_ hdb)
  refine PySem.W.callWith_K (h₀ := X.base) I.ok.mod.kin hkp (thn (ha.p.run pos pins s σ H _ I h) fun us s1 ⟨vs, H1, I1, r, q⟩ => ⟨I1.kIn, ?_⟩) he hpl
  have hn : us.length = ps.length := by rw [← r.length]; exact G.len _ _ _ _ q
  have b := hb s1 us I1.kIn (by rw [List.append_nil]; exact hn)
  rw [List.append_nil] at b
  refine wpAny_call (codeAny_mono (G.run X.A X.stack s1 H1 ⟨us, []⟩ us vs Q (WE W σ) hr I1.env0 b r q) fun r s' hq => ?_)
  cases r with
  | error e => exact L2N.passAt tk σ pins H1 s1 e s' I1 hq
  | ok fl =>
    cases fl with
    | ret u => exact I1.after hq
    | next => exact hq.elim
    | brk => exact hq.elim
    | cont => exact hq.elim
end
def wHot (K : PySem.W.Frag) (c : Value) (i : Nat) (ts : Addr → Value → TS) (Wo : WX) (D : Ends) : WX := fun cls d σ H =>
  ∃ b, PySem.W.exmOne K cls c = some b ∧ (b = true → d = none ∧ ∀ a, H a = none → ts a cls { nx := fun σ' H' => D.nx (σ'.set i none) H', rt := fun _ _ => False, bk := fun _ _ => False, ct := fun _ _ => False } (σ.set i (some (.ref a))) (upd H a (ExH cls a))) ∧
    (b = false → Wo cls d σ H)
section
variable {X : Cx} {x n : Str} {c : Value} {i : Nat} {body suite : List Stmt} {b₀ : Stmt} {np pos pos' : Pos} {tb : WX → TS} {ts : Addr → Value → TS} {Wo : WX}
theorem ps_try_hot (hs : X.stack = X.env :: X.outer) (hf : X.env.frame = some X.env.locals) (hx : X.ex = []) (hN : X.N.Nodup) (hi : X.N[i]? = some n) (hln : X.env.kindOf n = some .local) (hc : Names X x c) (tk : L2N.Takes X Wo)
    (hb : ∀ (W : WX) (pn : List (Addr × Obj)) (xe : Value → Shared → Prop), L2N.Takes (X.tr pn xe) W → PassesOwn (model X.prog X.w) X.A X.env xe → PSs (X.tr pn xe) body (tb W))
    (hsu : ∀ (a : Addr) (cls : Value) (pn : List (Addr × Obj)), PSs (X.suite a pn) (b₀ :: suite) (ts a cls)) :
    PS X (.Try body [.ExceptHandler (some (.Name x np)) (some n) (b₀ :: suite) pos'] [] [] pos) (fun D σ H => tb (wHot X.K c i ts Wo D) D σ H) := by
  constructor
  intro pp s σ H D I h
  have hA : X.A.frames = some (X.env :: X.outer) := by rw [I.ok.frames, hs]
  let hd : List ExceptHandler := [.ExceptHandler (some (.Name x np)) (some n) (b₀ :: suite) pos']
  let xe' : Value → Shared → Prop := fun e t1 => wpAny (model X.prog X.w) X.A (noteFrame e X.env) (fun _ t2 => wpAny (model X.prog X.w) X.A (setFlight e none) (fun _ t3 => wpAny (model X.prog X.w) X.A (handleBy e X.env hd) (SP X pp D) X.xe t3) X.xe t2) X.xe t1
  have catches : L2N.Takes (X.tr (X.pn ++ pp) xe') (wHot X.K c i ts Wo D) := by
    intro u t air
    obtain ⟨a, B, sI, p2, σ', H', cls, d, eu, J0, nb, up, sky, na, os, ag, k, k1, kyes, kno⟩ := air
    subst eu
    have J : Inv X pp σ' H' sI := J0.ofTry I.ok
    have sky2 : Sky B (X.env :: X.outer) a (L2N.Zn cls d) X.env.locals t.heap := by rw [← hs]; exact sky
    show wpAny _ _ (noteFrame (.ref a) X.env) _ _ _
    refine L2N.Sky.land L2N.Zn.steady hA hf sky2 fun g fl ug => ?_
    have Jg : Inv X pp σ' H' { t with heap := g } := J.landed nb fl.1 (up.trans ug) os ag
    obtain ⟨og, vg, eg, zg, dg⟩ := fl.there
    have off : a ∉ frs (X.env :: X.outer) := fun m => by
      obtain ⟨_, o', e', q⟩ := (fl.2.2.1).mem m
      rw [eg] at e'; cases e'
      exact q _ dg
    have nl : a ≠ X.env.locals := fun z => off (List.mem_filterMap.mpr ⟨X.env, List.mem_cons_self, by rw [hf, z]⟩)
    have nf : a ∉ X.fs := fun m => by
      obtain ⟨e', m', q⟩ := List.mem_filterMap.mp m
      exact off (List.mem_filterMap.mpr ⟨e', List.mem_cons_of_mem _ m', q⟩)
    have bn : B.get? a = none := fl.2.1
    have away : ∀ b o, sI.heap.get? b = some o → b ∉ frs (X.env :: X.outer) → b ≠ a := fun b o q m z => by
      have := nb b o q (by show b ∉ frs X.stack; rw [hs]; exact m)
      rw [z, bn] at this; cases this
    refine wpAny_handleBy_cons (codeAny_handlers_test ?_) (by intro q; cases q)
    have ty : PySem.W.Looks (model X.prog X.w) g (typeOf (.ref a)) cls := fun A Q E z kk q => wpAny_typeOf_ref (kk _ _ eg) (by rw [zg.1]; exact q)
    have me := PySem.W.exm_one (M := model X.prog X.w) Jg.kIn ty k1
    have Sg := Jg.suite eg dg na nl nf
    have named : ∀ {Q E : Value → Shared → Prop}, Q c { t with heap := g } → wpAny (model X.prog X.w) (X.A.mark (some (.ref a))) (eval (.Name x np) X.env) Q E { t with heap := g } := by
      intro Q E q
      obtain ⟨y1, y2, y3⟩ := hc
      rcases y3 with y3 | ⟨y3, y4, y5⟩
      · exact ld_glob (X := X.suite a ((a, og) :: (X.pn ++ pp))) Sg y1 y3 q y2
      · exact ld_blt (X := X.suite a ((a, og) :: (X.pn ++ pp))) Sg y1 y3 y4 q y5 y2
    refine named (me.here ?_)
    cases k with
    | false =>
      show wpAny _ X.A (handleBy (.ref a) X.env []) _ _ _
      refine wpAny_handleBy_nil ?_
      have on : wpAny (model X.prog X.w) X.A (setFlight (.ref a) X.env.frame) (fun _ z => wpAny (model X.prog X.w) X.A (throw (.ref a) : Sem Flow) (SP X pp D) X.xe z) X.xe { t with heap := g } := by
        rw [hf]
        refine HandSPX.setFlight_upZ fl fun g2 hold u2 => wpAny_throw (tk _ _ ?_)
        exact ⟨a, B, sI, pp, σ', H', cls, d, rfl, J, nb, (up.trans ug).trans u2, .inr (.inr (by rw [hs]; exact hold)), na, os, ag, kno rfl⟩
      obtain ⟨_, _, _, o1, v1, T1, _, _, w1, _, w3, w4, _⟩ := id fl
      unfold PySem.passOn
      refine wpAny_bind (wpAny_field w1 w3 w4 ?_)
      rw [if_neg (by simp)]
      first
        | exact wpAny_bind on
        | exact wpAny_bind (wpAny_pure (wpAny_bind on))
    | true =>
      obtain ⟨dn, ky⟩ := kyes rfl
      subst dn
      refine codeAny_handlers_suite_as (HandSPX.lands_againZ fl fun g4 f4 u4 => ?_)
      have J4 : Inv X pp σ' H' { t with heap := g4 } := J.landed nb f4.1 ((up.trans ug).trans u4) os ag
      obtain ⟨o4, v4, e4, z4, d4⟩ := f4.there
      have T4 : Inv X pp σ' (upd H' a (ExH cls a)) { t with heap := g4 } := track_inv J4 e4 na nl z4.1 z4.2.1 d4 (by
          cases q : X.s_0.heap.get? a with
          | none => rfl
          | some o =>
            obtain ⟨o', q'⟩ := J.base.there a o q (by rw [hx]; exact fun z => by cases z)
            exact absurd rfl (away a o' q' off)) (fun p m => by
          obtain ⟨w1, w2, w3, w4, _⟩ := J.pin p m
          refine away p.1 p.2 w1 fun z => ?_
          obtain ⟨e', m', q'⟩ := List.mem_filterMap.mp z
          rcases List.mem_cons.mp m' with m' | m'
          · subst m'; rw [hf] at q'; exact w3 (Option.some.inj q').symm
          · exact w4 (List.mem_filterMap.mpr ⟨e', m', q'⟩))
      have S4 : Inv (X.suite a (X.pn ++ pp)) [] σ' (upd H' a (ExH cls a)) { t with heap := g4 } :=
        ⟨T4.ok.suite _ _, T4.os, T4.bare, T4.base, T4.loc, T4.cell, T4.free, T4.freeC, fun p hp => T4.pin p (by rw [List.append_nil] at hp; exact hp), T4.hok, T4.len⟩
      refine store_ok (X := X.suite a (X.pn ++ pp)) (v := .ref a) S4 hN hi (.inl hln) rfl (fun t5 S5 => ?_) (.inr hln)
      refine wpAny_mono ((hsu a cls (X.pn ++ pp)).run [] t5 _ _ _ S5 (ky a na)) (fun fl6 t6 r6 => ?_) (fun _ _ z => z.elim)
      cases fl6 with
      | next =>
        obtain ⟨σ6, H6, S6, q6⟩ := r6
        have J6 : Inv X pp σ6 H6 t6 := ⟨I.ok, S6.os, S6.bare, S6.base, S6.loc, S6.cell, S6.free, S6.freeC, fun p hp => S6.pin p (by rw [List.append_nil]; exact hp), S6.hok, S6.len⟩
        exact gone_ok J6 hN hi hln fun t7 J7 => ⟨_, _, J7, q6⟩
      | brk => obtain ⟨_, _, _, q6⟩ := r6; exact q6.elim
      | cont => obtain ⟨_, _, _, q6⟩ := r6; exact q6.elim
      | ret u => obtain ⟨_, _, _, _, _, q6⟩ := r6; exact q6.elim
  refine wpAny_Try_except (wpAny_mono ((hb _ (X.pn ++ pp) xe' catches PassesOwn.looking).run [] s σ H D (I.toTry _) h) (fun f t r => ?_) (fun _ _ z => z))
  cases f with
  | next => obtain ⟨σ1, H1, J1, q1⟩ := r; exact wpAny_execs_nil ⟨σ1, H1, J1.ofTry I.ok, q1⟩
  | brk => obtain ⟨σ1, H1, J1, q1⟩ := r; exact ⟨σ1, H1, J1.ofTry I.ok, q1⟩
  | cont => obtain ⟨σ1, H1, J1, q1⟩ := r; exact ⟨σ1, H1, J1.ofTry I.ok, q1⟩
  | ret u => obtain ⟨v1, σ1, H1, J1, r1, q1⟩ := r; exact ⟨v1, σ1, H1, J1.ofTry I.ok, r1, q1⟩
end
def sTryH (cs : List Str) (j : Nat) (b su : M Fl) : M Fl := fun e => match b e with
  | .ex c e' => if c ∈ cs ∧ j < e'.length then (match su (e'.set j (some (.exc c))) with
    | .ok .nx e2 => .ok .nx (e2.set j none)
    | _ => .stuck) else .stuck
  | r => r
section
variable {X : Cx} {cf : Cf} {W : WX}
def hotT (X : Cx) (suite : List Stmt) : Addr → Value → TS := fun a _ D σ H => ∀ (pn : List (Addr × Obj)), ∃ t, PSs (X.suite a pn) suite t ∧ t D σ H
theorem hotT_ps {suite : List Stmt} (a : Addr) (cls : Value) (pn : List (Addr × Obj)) : PSs (X.suite a pn) suite (hotT X suite a cls) := by
  constructor
  intro pp s σ H D I h
  obtain ⟨t, p, ht⟩ := h pn
  exact p.run pp s σ H D I ht
theorem ss_tryH {body suite : List Stmt} {b₀ : Stmt} {fb fs : M Fl} {x n : Str} {cE : Value} {j : Nat} {cs : List Str} {np pos pos' : Pos} (hK : cf.K = X.K) (hcv : cf.cv = cvK cf.K) (hs : X.stack = X.env :: X.outer) (hf : X.env.frame = some X.env.locals) (hx : X.ex = []) (hN : X.N.Nodup) (hj : X.N[j]? = some n) (hln : X.env.kindOf n = some .local)
    (hkj : cf.kd j = .S) (hc : Names X x cE) (tk : L2N.Takes X W) (hcs : ∀ c ∈ cs, PySem.W.exmOne X.K (cvK X.K c) cE = some true)
    (hb : ∀ (W : WX) (pn : List (Addr × Obj)) (xe : Value → Shared → Prop), L2N.Takes (X.tr pn xe) W → PassesOwn (model X.prog X.w) X.A X.env xe → SSs (X.tr pn xe) cf W body fb)
    (hsu : ∀ (a : Addr) (pn : List (Addr × Obj)), L2N.Takes (X.suite a pn) (fun _ _ _ _ => False) → SSs (X.suite a pn) cf (fun _ _ _ _ => False) (b₀ :: suite) fs) :
    SS X cf W (.Try body [.ExceptHandler (some (.Name x np)) (some n) (b₀ :: suite) pos'] [] [] pos) (sTryH cs j fb fs) := by
  refine ⟨_, ps_try_hot (tb := tryT X body) (ts := hotT X (b₀ :: suite)) hs hf hx hN hj hln hc tk (fun W pn xe tk pw => tryT_ps W pn xe tk pw) hotT_ps, fun R Hs env σ H F wf r D hp => ?_⟩
  refine tryT_sd hb r ?_
  unfold sTryH at hp
  cases q : fb env with
  | ok f e => rw [q] at hp; cases f <;> exact hp
  | stuck => rw [q] at hp; exact hp
  | ex c e =>
    rw [q] at hp
    simp only at hp
    split at hp
    · rename_i hm
      intro Hs' σ' H' F' wf' ex r'
      refine ⟨true, by rw [hcv, hK]; exact hcs c hm.1, fun _ => ⟨rfl, fun a na pn => ?_⟩, fun z => by cases z⟩
      obtain ⟨t, pt, sd⟩ := hsu a pn takes0N
      refine ⟨t, pt, ?_⟩
      have r2 := r'.grow (Ex.new (o := ExH (cf.cv c) a) na)
      have r3 := (r2.put (i := j) (v := .ref a) (d := .exc c) (by rw [hkj]; exact fun z => by cases z) fun F' => by
        rw [hkj]
        refine Rp.exc ?_
        rw [grow_none na, upd_same, hcv])
      refine sd _ _ _ _ _ _ _ r3 _ ?_
      cases q2 : fs (e.set j (some (.exc c))) with
      | stuck => rw [q2] at hp; exact hp.elim
      | ex c2 e2 => rw [q2] at hp; exact hp.elim
      | ok f2 e2 =>
        rw [q2] at hp
        cases f2 with
        | nx =>
          intro Hs2 σ2 H2 F2 wf2 ex2 rr
          have r4 := rr.unset (j := j) (by rw [hkj]; exact fun z => by cases z)
          exact hp _ _ _ _ _ ((ex.trans (Ex.grow r'.exs (Ex.new na))).trans ex2) r4
        | rt d => exact hp.elim
        | bk => exact hp.elim
        | ct => exact hp.elim
    · exact hp.elim
end
end MV
namespace MV
open PySem PySem.Spec PyProof.Rows L2
section
open Classical
variable {cf : Cf} {R : Rs} {Hs H : Hp} {env : PEnv} {σ : L2.St} {F : Nat → List Addr} {wf : List Addr}
def Held (cf : Cf) (F : Nat → List Addr) (a : Addr) : Prop := ∃ i, cf.kd i ≠ .W ∧ a ∈ F i
theorem Held.un (r : Rel cf R Hs env σ H F wf) {a : Addr} (h : Held cf F a) : Hs a = none := by obtain ⟨i, _, m⟩ := h; exact r.uns i a m
theorem Held.nw (r : Rel cf R Hs env σ H F wf) {a : Addr} (h : Held cf F a) : a ∉ wf := by obtain ⟨i, k, m⟩ := h; exact r.volb i k a m
theorem Held.dom (r : Rel cf R Hs env σ H F wf) {a : Addr} (h : Held cf F a) : H a ≠ none := by obtain ⟨i, k, m⟩ := h; exact r.fdom i a m
end
section
variable {X : Cx} {cf : Cf} {W : WX} {a : Expr} {ta : TE} {fa : M D} {n : Bool}
end
end MV
namespace MV
open PySem PySem.Spec PyProof.Rows L2
open PySem.W (minD)
def gIxL : D → D → Option D
  | .lst ds, .int i => L2.atI ds i
  | _, _ => none
@[simp] theorem gIxL_l {ds : List D} {i : Int} : gIxL (.lst ds) (.int i) = L2.atI ds i := (rfl)
section
variable {X : Cx} {cf : Cf} {W : WX} {c : Cls} {n n1 : Bool}
theorem se_ixM {i : Nat} {o ix : Expr} {ti : TE} {f : M D} {pos : Pos} (hK : cf.K = X.K) (po : PE X o (tVar i)) (hk : cf.kd i = .M) (h : SE X cf W c n ix ti f) (hs : PlainIx ix) : SE X cf W .N false (.Subscript o ix pos) (tOp (rIx cf.K) (tVar i) ti) (e2 gIxL (eV i) f) := by
  rw [hK]
  refine ⟨pe_ix ix_seq po h.p hs, Sd.mk (fun R Hs env σ H F wf r d env' q Q k => ?_) (fun R Hs env σ H F wf r x env' q Q k => ?_)⟩
  · obtain ⟨d0, e0, q0, qb⟩ := bnd_ok q
    obtain ⟨q0, rfl⟩ := eV_ok q0
    obtain ⟨d2, env1, q1, q2⟩ := bnd_ok qb
    obtain ⟨qg, rfl⟩ := lift_ok q2
    unfold gIxL at qg
    split at qg
    · obtain ⟨p0, xs0, a1, a2, a3, a4⟩ := own_list r hk q0
      refine ⟨.ref p0, a1, ?_⟩
      refine h.s.ok r q1 fun v Hs1 H1 s1 r1 p1 _ => ?_
      obtain ⟨p, xs, b1, b2, b3, b4⟩ := own_list r1 hk (by rw [s1.kp i (by rw [hk]; exact fun z => by cases z)]; exact q0)
      have ep : p = p0 := by rw [b1] at a1; cases a1; rfl
      subst ep
      obtain ⟨w, hw, hr⟩ := atI_rp b4 qg
      exact .inl ⟨p, xs, _, w, rfl, p1.int_inv, .inl (.inl b3), hw, k w Hs1 H1 s1 r1 hr fun z => by cases z⟩
    · cases qg
  · rcases bnd_ex q with q | ⟨d0, e0, q0, q⟩
    · exact (eV_ex q).elim
    · obtain ⟨q0, ee⟩ := eV_ok q0
      rw [ee] at q
      obtain ⟨v, hv, _⟩ := r.slot i d0 q0
      refine ⟨v, hv, ?_⟩
      rcases bnd_ex q with q | ⟨d2, env1, q1, q2⟩
      · exact h.s.exn r q k
      · exact (lift_ex q2).elim
theorem min_items {K : PySem.W.Frag} {N H : Hp} {p : Addr} {ys : List V} {ds : List D} {d : D} (e : Ex N H) (hp : H p = some (.lst ys)) (r1 : RpL K true N ys ds) (q : gMinD [.lst ds] = some d) (Q : VK) (k : ∀ v, Rp K true N v d → Q v H) : rMinD K [.ref p] H Q := by
  unfold gMinD at q
  split at q
  · rename_i d0 ds0 hh
    cases hh
    split at q
    · rename_i ok
      cases q
      have tp := toPs_all (okO_some ok)
      have dp := r1.dp e tp
      have mm := mnD_mem d0 ds0
      have mp : minD d0.P (ds0.map D.P) ∈ (d0 :: ds0).map D.P := by rw [← mnD_P]; exact List.mem_map.mpr ⟨_, mm, rfl⟩
      refine ⟨p, ys, d0.P, ds0.map D.P, rfl, .inl (.inl hp), dp, okO_alike ok, okO_depth ok, mp, fun i x hx hp => ?_⟩
      obtain ⟨dd, hd, rr⟩ := r1.getV hx
      have hp : ((d0 :: ds0).map D.P)[i]? = some (minD d0.P (ds0.map D.P)) := hp
      rw [List.getElem?_map, hd, ← mnD_P] at hp
      have hp : dd.P = (mnD d0 ds0).P := Option.some.inj hp
      obtain ⟨p1, e1⟩ := Option.isSome_iff_exists.mp (okO_some ok dd (List.mem_of_getElem? hd))
      obtain ⟨p2, e2⟩ := Option.isSome_iff_exists.mp (okO_some ok _ mm)
      rw [P_of e1, P_of e2] at hp
      subst hp
      exact k x (by rw [← toP_inj e1 e2]; exact rr)
    · cases q
  · cases q
def gMinXL : List D → Option D
  | [.lst ds] => gMinX [.lst ds]
  | _ => none
@[simp] theorem gMinXL_l {ds : List D} : gMinXL [.lst ds] = gMinX [.lst ds] := (rfl)
section
variable {e : Expr} {p pos kpos npos : Pos} {j i : Nat}
theorem sd_minXM (hk : cf.kd i = .M) : Sd cf W .N false (tCKw (rMinX cf.K) (tCons (tVar i) tNil) (tCons (tC .non) tNil)) (eN gMinXL (aCons (eV i) aNil)) := by
  refine Sd.mk (fun R Hs env σ H F wf r d env' q Q k => ?_) (fun R Hs env σ H F wf r x env' q Q k => ?_)
  · obtain ⟨d1, env1, q1, q⟩ := bnd_ok q
    obtain ⟨qg, rfl⟩ := lift_ok q
    obtain ⟨d0, e0, q0, q3⟩ := bnd_ok q1
    obtain ⟨q0, ee⟩ := eV_ok q0
    rw [ee] at q3
    cases q3
    unfold gMinXL at qg
    split at qg
    · rename_i ds hh
      cases hh
      obtain ⟨p0, xs, a1, a2, a3, a4⟩ := own_list r hk q0
      refine ⟨.ref p0, a1, ?_⟩
      show rMinX cf.K [.ref p0] [.non] H Q
      refine ⟨.non, rfl, ?_⟩
      unfold gMinX at qg
      split at qg
      · rename_i hh
        cases hh
        cases qg
        cases a4
        exact .inr ⟨p0, rfl, .inl (.inl a3), k .non Hs H Stp.refl r .non fun z => by cases z⟩
      · exact .inl (min_items ((rs_sub _ _).trans r.exs) a3 a4 qg Q fun v rr => k v Hs H Stp.refl r rr fun z => by cases z)
    · cases qg
  · rcases bnd_ex q with q | ⟨d1, env1, q1, q⟩
    · rcases bnd_ex q with q | ⟨d0, e0, q0, q⟩
      · exact (eV_ex q).elim
      · cases q
    · exact (lift_ex q).elim
theorem se_minXM (hK : cf.K = X.K) (hc : X.calm = true) (hu : X.A.units + 64 < cLine) (hm : X.mg "min" = none) (po : PE X e (tVar i)) (hk : cf.kd i = .M) (hg : Gl X "min" := by rfl) (he : backTo pos (starEach [e] X.env) = (false, eval e X.env) :: backTo pos (starEach [] X.env) := by rfl) (hpl : (backTo pos (starEach [e] X.env)).any (·.1) = false := by rfl)
    (hall : (backToKw pos (keywordEach [⟨some (Str.ofString "default"), .Constant .none j npos, kpos⟩] X.env)).all (·.1.isSome) = true := by rfl) (hnone : (backToKw pos (keywordEach [⟨some (Str.ofString "default"), .Constant .none j npos, kpos⟩] X.env)).any (·.1.isNone) = false := by rfl) (hks : (backToKw pos (keywordEach [⟨some (Str.ofString "default"), .Constant .none j npos, kpos⟩] X.env)).filterMap (·.1) = [Str.ofString "default"] := by rfl)
    (hst : starEach [e] X.env = (false, eval e X.env) :: starEach [] X.env := by rfl) :
    SE X cf W .N false (.Call (.Name "min" p) [e] [⟨some (Str.ofString "default"), .Constant .none j npos, kpos⟩] pos) (tCKw (rMinX cf.K) (tCons (tVar i) tNil) (tCons (tC .non) tNil)) (eN gMinXL (aCons (eV i) aNil)) :=
  ⟨pe_callBK (hK ▸ cr_minX hc hu) hg hm rfl (pa_cons po pa_nil hst) (pk_cons pe_non pk_nil) (by decide) (by decide) he hpl hall hnone hks, sd_minXM hk⟩
end
def sAppMv (i j : Nat) : M Fl := fun e => match lstAt i e, lstAt j e with
  | some ds, some es => if ds.length < LIM ∧ i ≠ j then .ok .nx ((e.set j none).set i (some (.lst (ds ++ [.lst es])))) else .stuck
  | _, _ => .stuck
section
variable {R : Rs} {Hs H : Hp} {env : PEnv} {σ : L2.St} {F : Nat → List Addr} {wf : List Addr}
theorem Rel.freeze (r : Rel cf R Hs env σ H F wf) {j : Nat} {p : Addr} {xs : List V} (hk : cf.kd j = .M) (hF : F j = [p]) (hp : H p = some (.lst xs)) :
    Ex Hs (upd Hs p (.lst xs)) ∧ Rel cf R (upd Hs p (.lst xs)) (env.set j none) σ H (fun k => if k = j then [] else F k) wf := by
  have hm : p ∈ F j := by rw [hF]; exact List.mem_cons_self
  have un : Hs p = none := r.uns j p hm
  have ex : Ex Hs (upd Hs p (.lst xs)) := Ex.new un
  have kw : cf.kd j ≠ .W := by rw [hk]; exact fun z => by cases z
  have sub : ∀ {k : Nat} {a : Addr}, a ∈ (if k = j then [] else F k) → k ≠ j ∧ a ∈ F k := fun {k a} m => by
    split at m
    · cases m
    · rename_i q; exact ⟨q, m⟩
  refine ⟨ex, ?_⟩
  refine
    { len := by rw [List.length_set]; exact r.len
      exs := fun a o h => by
        by_cases q : a = p
        · subst q; rw [upd_same] at h; cases h; exact hp
        · rw [upd_ne q] at h; exact r.exs a o h
      ex0 := fun a o h n => ex a o (r.ex0 a o h n)
      dom0 := r.dom0
      slot := fun i d h => ?_
      nod := fun i => by
        show (if i = j then [] else F i).Nodup
        split
        · exact List.nodup_nil
        · exact r.nod i
      dis := fun a b n x m m' => r.dis a b n x (sub m).2 (sub m').2
      fdom := fun i a m => r.fdom i a (sub m).2
      uns := fun i a m => by
        obtain ⟨ne, m⟩ := sub m
        rw [upd_ne (fun e => by subst e; exact r.dis i j ne a m hm)]
        exact r.uns i a m
      new := fun i a m => r.new i a (sub m).2
      volw := fun i k a m => r.volw i k a (sub m).2
      volb := fun i k a m => r.volb i k a (sub m).2
      wdom := fun a m => by
        obtain ⟨h1, h2⟩ := r.wdom a m
        exact ⟨h1, by rw [upd_ne (fun e => by subst e; exact r.volb j kw a hm m)]; exact h2⟩
      ior := fun q h => by
        obtain ⟨h1, h2, h3, d, h4⟩ := r.ior q h
        have ne : (0 : Nat) ≠ j := fun e => by subst e; exact kw h3
        exact ⟨h1, by show (if (0 : Nat) = j then [] else F 0) = [q]; rw [if_neg ne]; exact h2, h3, d, by rw [List.getElem?_set_ne (Ne.symm ne)]; exact h4⟩ }
  rcases get_set h with ⟨rfl, e, hl⟩ | ⟨ne, h⟩
  · cases e
  · obtain ⟨v, h1, h2⟩ := r.slot i d h
    refine ⟨v, h1, ?_⟩
    show SlotR cf.K cf.ob R _ H (if i = j then [] else F i) (cf.kd i) v d
    rw [if_neg (fun e => ne e.symm)]
    cases q : cf.kd i with
    | S => rw [q] at h2; exact Rp.mono ex h2
    | Q => rw [q] at h2; exact Rp.mono ex h2
    | P => rw [q] at h2; exact Own.mono (th_mono (rs_mono ex)) (Ex.refl _) h2
    | N => rw [q] at h2; exact Rp.mono (rs_mono ex) h2
    | M => rw [q] at h2; exact ⟨Own.mono (rs_mono ex) (Ex.refl _) h2.1, h2.2⟩
    | W => rw [q] at h2; exact h2.imp id fun ⟨C, hC, h2⟩ => ⟨C, hC, h2.mono ex fun _ _ _ h => h⟩
end
theorem ss_appMv {i j : Nat} {o e : Expr} {apos cpos pos : Pos} (hK : cf.K = X.K) (po : PE X o (tVar i)) (hk : cf.kd i = .M) (pe : PE X e (tVar j)) (hj : cf.kd j = .M)
    (hbase : attributeBase o "append" X.env (eval o X.env) = eval o X.env := by rfl)
    (hfew : ((backTo cpos (starEach [e] X.env)).all (fun x => !x.1) && (backToKw cpos (keywordEach [] X.env)).all (fun x => x.1.isSome) && decide ([e].length + ([] : List Keyword).length + (if ([] : List Keyword).isEmpty then 0 else 1) < 30)) = true := by rfl)
    (hline : (apos.endLine == cpos.line) = true := by rfl) (hs : starEach [e] X.env = (false, eval e X.env) :: starEach [] X.env := by rfl) (hplain : (backTo cpos (starEach [] X.env)).any (·.1) = false := by rfl)
    (hsw : swapsWith (.Call (.Attribute o "append" apos) [e] [] cpos) none pos.line X.env = pure false := by rfl) :
    SS X cf W (.Expr (.Call (.Attribute o "append" apos) [e] [] cpos) pos) (sAppMv i j) := by
  refine ⟨_, ps_expr (pe_bm PySem.F.plainAttrs_list PySem.F.slot_list_append PySem.F.type_list_append mt_append po (pa_cons pe pa_nil hs) hbase hfew hline hs hplain) hsw, fun R Hs env σ H F wf r D hp => ?_⟩
  unfold sAppMv at hp
  cases q0 : lstAt i env with
  | none => simp only [q0] at hp; exact hp.elim
  | some ds =>
    cases q1 : lstAt j env with
    | none => simp only [q0, q1] at hp; exact hp.elim
    | some es =>
      simp only [q0, q1] at hp
      split at hp
      · rename_i hl
        obtain ⟨p, xs, a1, a2, a3, a4⟩ := own_list r hk (lstAt_some q0)
        obtain ⟨pj, ys, b1, b2, b3, b4⟩ := own_list r hj (lstAt_some q1)
        obtain ⟨ex, fr⟩ := r.freeze hj b2 b3
        refine ⟨.ref p, a1, .inl ⟨rfl, xs, .inl (.inl a3)⟩, ?_⟩
        refine ⟨.ref pj, b1, ?_⟩
        have q0' : (env.set j none)[i]? = some (some (.lst ds)) := by rw [List.getElem?_set_ne (Ne.symm hl.2)]; exact lstAt_some q0
        have F0 : (if i = j then [] else F i) = [p] := by rw [if_neg hl.2]; exact a2
        have h0 : R.H0 pj = none := by
          rcases r.new j pj (by rw [b2]; exact List.mem_cons_self) with z | z
          · obtain ⟨_, z2, z3, _⟩ := r.ior pj z
            exact absurd (by rw [z2]; exact List.mem_cons_self) (r.dis j 0 (fun e => by subst e; rw [hj] at z3; cases z3) pj (by rw [b2]; exact List.mem_cons_self))
          · exact z
        have pv : Rp cf.K true (rs (upd Hs pj (.lst ys)) R.H0) (.ref pj) (.lst es) := Rp.lst (SqLx.of (by rw [rs_none h0, upd_same])) (b4.mono (rs_mono ex))
        refine ⟨p, xs, .ref pj, rfl, rfl, a3, by rw [a4.length]; exact lim_lt hl.1, ?_⟩
        exact hp _ σ _ _ wf ex (fr.mut (i := i) (p := p) (v := .ref p) (d0 := .lst ds) (by rw [F0]; exact List.mem_cons_self) q0' a1 (by
            rw [hk, F0]
            exact ⟨Own.lst upd_same (ownL_of ((a4.mono (rs_mono ex)).append (.cons pv .nil))), fun z => (by cases z), Nat.le_refl _⟩))
      · exact hp.elim
end
end MV
namespace MV
open PySem PySem.Spec PyProof.Rows L2
section
variable {X : Cx} {cf : Cf} {W : WX} {c : Cls} {n n1 : Bool}
def SdGsN (cf : Cf) (is js : List Nat) (g : TGs) : Prop :=
  ∀ (R : Rs) (Hs : Hp) (env : PEnv) (σ : L2.St) (H : Hp) (F : Nat → List Addr) (wf : List Addr), Rel cf R Hs env σ H F wf → ∀ (ds : List D) (vs : List V), RpL cf.K true (rs Hs R.H0) vs ds → ∀ Q : L2.St → Hp → Prop, ∀ env', setAll js ds env = some env' →
    (∀ σ', Rel cf R Hs env' σ' H F wf → wipe σ' is = wipe σ is → (∀ j, j ∉ is → env'[j]? = env[j]?) → Q σ' H) → g vs σ H Q
structure SGtsN (X : Cx) (cf : Cf) (is js : List Nat) (ts : List Expr) (g : TGs) : Prop where
  p : PGs X ts g
  s : SdGsN cf is js g
end
end MV
namespace MV
open PySem PySem.Spec PyProof.Rows L2
def gZpA : List D → Option (List D)
  | [.lst as, .lst bs] => some (zipD as bs)
  | [.tup as, .tup bs] => some (zipD as bs)
  | _ => none
@[simp] theorem gZpA_l {a b : List D} : gZpA [.lst a, .lst b] = some (zipD a b) := (rfl)
@[simp] theorem gZpA_t {a b : List D} : gZpA [.tup a, .tup b] = some (zipD a b) := (rfl)
section
variable {X : Cx} {cf : Cf} {W : WX} {c : Cls} {n n1 : Bool}
end
end MV
namespace MV
open PySem PySem.Spec PyProof.Rows L2
def sClr (i : Nat) : M Fl := fun e => match lstAt i e with
  | some _ => .ok .nx (e.set i (some (.lst [])))
  | none => .stuck
section
variable {X : Cx} {cf : Cf} {W : WX} {c : Cls} {n n1 : Bool}
@[simp] theorem r_sClr {i : Nat} {e : PEnv} : sClr i e = ro (lstO (e[i]?)) fun _ => .ok .nx (e.set i (some (.lst []))) := by
  unfold sClr
  show _ = ro (lstAt i e) _
  cases lstAt i e <;> rfl
end
end MV
namespace MV
open PySem PySem.Spec PyProof.Rows L2
section
variable {cf : Cf} {R : Rs} {Hs H : Hp} {env : PEnv} {σ : L2.St} {F : Nat → List Addr} {wf : List Addr} {i : Nat} {p : Addr} {kvs : List (Key × D)} {kvs' : List (Key × V)}
end
def eLock (i : Nat) (f : M D) : M D := fun e => match e[i]? with
  | some (some (.dic kvs)) => if (kvs.map (·.2)).all D.sc then (match f e with
    | .ok d e' => .ok d e'
    | _ => .stuck) else .stuck
  | _ => .stuck
section
variable {X : Cx} {cf : Cf} {W : WX} {a : Expr} {ta : TE} {fa : M D} {n : Bool} {i : Nat}
@[simp] theorem r_eLock {e : PEnv} {kvs : List (Key × D)} (h : e[i]? = some (some (.dic kvs))) (hs : (kvs.map (·.2)).all D.sc = true) {d : D} {e' : PEnv} (hf : fa e = .ok d e') : eLock i fa e = .ok d e' := by
  unfold eLock
  simp only [h, hs, hf, if_true]
end
end MV
namespace MV
open PySem PySem.Spec PyProof.Rows L2
def gIsB : D → D → Option D
  | .bl a, .bl b => some (.bl (decide (a = b)))
  | _, _ => none
def gNotB : D → D → Option D
  | .bl a, .bl b => some (.bl (!decide (a = b)))
  | _, _ => none
@[simp] theorem gIsB_b {a b : Bool} : gIsB (.bl a) (.bl b) = some (.bl (decide (a = b))) := (rfl)
@[simp] theorem gNotB_b {a b : Bool} : gNotB (.bl a) (.bl b) = some (.bl (!decide (a = b))) := (rfl)
section
variable {X : Cx} {cf : Cf} {W : WX} {c c' : Cls} {n n1 n2 : Bool} {a b : Expr} {ta tb : TE} {fa fb : M D} {pos : Pos}
end
def okR3 (i j c : Int) : Bool := decide (c ≠ 0) && decide (c.natAbs < 1073741824) && Builtin.Range.small i j c && decide ((Builtin.Range.rangeSize i j c).toNat ≤ LIM)
def gLR3 : List D → Option D
  | [.int i, .int j, .int c] => if okR3 i j c then some (.lst (rngC i c (Builtin.Range.rangeSize i j c).toNat)) else none
  | _ => none
@[simp] theorem gLR3_i {i j c : Int} : gLR3 [.int i, .int j, .int c] = if okR3 i j c then some (.lst (rngC i c (Builtin.Range.rangeSize i j c).toNat)) else none := (rfl)
section
variable {X : Cx} {cf : Cf} {W : WX} {c : Cls} {n : Bool}
end
end MV
namespace MV
open PySem PySem.Spec PyProof.Rows L2
section
variable {X : Cx} {cf : Cf} {W : WX}
end
end MV
namespace MV
open PySem L2
def sealC (cf : Cf) (i : Nat) : Cf := ⟨cf.K, fun j => bif j == i then .N else cf.kd j, cf.cv, cf.ob⟩
def fgR (i : Nat) : Res Fl → Res Fl
  | .ok f e => .ok f (e.set i none)
  | .ex c e => .ex c (e.set i none)
  | .stuck => .stuck
def sSeal (i : Nat) (g : M Fl) : M Fl := fun e => fgR i (g e)
theorem seal_i {cf : Cf} {i : Nat} : (sealC cf i).kd i = .N := by show (bif i == i then _ else _) = _; rw [beq_self_eq_true]; rfl
theorem seal_ne {cf : Cf} {i j : Nat} (h : j ≠ i) : (sealC cf i).kd j = cf.kd j := by show (bif j == i then _ else _) = _; rw [beq_eq_false_iff_ne.mpr h]; rfl
def shr (Hs H : Hp) (F : List Addr) : Hp := fun a => if a ∈ F then H a else Hs a
theorem shr_in {Hs H : Hp} {F : List Addr} {a : Addr} (h : a ∈ F) : shr Hs H F a = H a := if_pos h
theorem shr_out {Hs H : Hp} {F : List Addr} {a : Addr} (h : a ∉ F) : shr Hs H F a = Hs a := if_neg h
section
variable {cf : Cf} {R : Rs} {Hs H H' : Hp} {env : PEnv} {σ : L2.St} {F : Nat → List Addr} {wf : List Addr} {i : Nat}
theorem shr_ex (r : Rel cf R Hs env σ H F wf) : Ex Hs (shr Hs H (F i)) := fun a o h => by
  by_cases m : a ∈ F i
  · rw [r.uns i a m] at h; cases h
  · rw [shr_out m]; exact h
theorem Rel.seal (r : Rel cf R Hs env σ H F wf) (hk : cf.kd i = .M ∨ cf.kd i = .P) : Rel (sealC cf i) R (shr Hs H (F i)) env σ H (fun j => if j = i then [] else F j) wf where
  len := r.len
  exs := fun a o h => by
    by_cases m : a ∈ F i
    · rw [shr_in m] at h; exact h
    · rw [shr_out m] at h; exact r.exs a o h
  ex0 := fun a o h n => shr_ex r a o (r.ex0 a o h n)
  dom0 := r.dom0
  slot := fun j d hj => by
    obtain ⟨v, h1, h2⟩ := r.slot j d hj
    refine ⟨v, h1, ?_⟩
    have e := shr_ex (i := i) r
    have hw : cf.kd i ≠ .W := by rcases hk with hk | hk <;> rw [hk] <;> exact fun z => by cases z
    by_cases c : j = i
    · subst c
      rw [seal_i]
      have nio : ∀ a ∈ F j, R.H0 a = none := fun a m => by
        rcases r.new j a m with h | h
        · obtain ⟨_, q1, q2, _⟩ := r.ior a h
          by_cases z : j = 0
          · subst z; exact absurd q2 hw
          · exact absurd (by rw [q1]; exact List.mem_cons_self) (r.dis j 0 z a m)
        · exact h
      have hg : ∀ a ∈ F j, ∀ o, H a = some o → rs (shr Hs H (F j)) R.H0 a = some o := fun a m o h => by
        rw [rs_none (nio a m), shr_in m]; exact h
      rcases hk with hk | hk
      · rw [hk] at h2
        exact Own.rp (rs_mono e) h2.1 hg
      · rw [hk] at h2
        exact Own.rp (th_sub.trans (rs_mono e)) h2 hg
    · rw [seal_ne c]
      show SlotR cf.K cf.ob R (shr Hs H (F i)) H (if j = i then [] else F j) (cf.kd j) v d
      rw [if_neg c]
      cases q : cf.kd j with
      | S => rw [q] at h2; exact Rp.mono e h2
      | Q => rw [q] at h2; exact Rp.mono e h2
      | P => rw [q] at h2; exact Own.mono (th_mono (rs_mono e)) (Ex.refl _) h2
      | N => rw [q] at h2; exact Rp.mono (rs_mono e) h2
      | M => rw [q] at h2; exact ⟨Own.mono (rs_mono e) (Ex.refl _) h2.1, h2.2⟩
      | W => rw [q] at h2; exact h2.imp id fun ⟨C, hC, h2⟩ => ⟨C, hC, h2.mono e fun _ _ _ h => h⟩
  nod := fun j => by
    show (if j = i then [] else F j).Nodup
    split
    · exact List.nodup_nil
    · exact r.nod j
  dis := fun j k hjk a m => by
    have m : a ∈ (if j = i then [] else F j) := m
    show a ∉ (if k = i then [] else F k)
    split at m
    · cases m
    · split
      · exact fun z => by cases z
      · exact r.dis j k hjk a m
  fdom := fun j a m => by
    have m : a ∈ (if j = i then [] else F j) := m
    split at m
    · cases m
    · exact r.fdom j a m
  uns := fun j a m => by
    have m : a ∈ (if j = i then [] else F j) := m
    split at m
    · cases m
    · rename_i c
      rw [shr_out (r.dis j i c a m)]; exact r.uns j a m
  new := fun j a m => by
    have m : a ∈ (if j = i then [] else F j) := m
    split at m
    · cases m
    · exact r.new j a m
  volw := fun j hj a m => by
    have m : a ∈ (if j = i then [] else F j) := m
    split at m
    · cases m
    · rename_i c
      rw [seal_ne c] at hj
      exact r.volw j hj a m
  volb := fun j hj a m => by
    have m : a ∈ (if j = i then [] else F j) := m
    split at m
    · cases m
    · rename_i c
      rw [seal_ne c] at hj
      exact r.volb j hj a m
  wdom := fun a m => by
    refine ⟨(r.wdom a m).1, ?_⟩
    have hw : cf.kd i ≠ .W := by rcases hk with hk | hk <;> rw [hk] <;> exact fun z => by cases z
    rw [shr_out fun z => r.volb i hw a z m]
    exact (r.wdom a m).2
  ior := fun p hp => by
    obtain ⟨q1, q2, q3, q4⟩ := r.ior p hp
    have c : (0 : Nat) ≠ i := fun z => by
      subst z
      rw [q3] at hk
      rcases hk with hk | hk <;> cases hk
    exact ⟨q1, by show (if 0 = i then [] else F 0) = [p]; rw [if_neg c]; exact q2, by rw [seal_ne c]; exact q3, q4⟩
theorem Rel.unseal (r : Rel (sealC cf i) R Hs env σ H F wf) (hk : cf.kd i ≠ .W) : Rel cf R Hs (env.set i none) σ H (fun j => if j = i then [] else F j) wf where
  len := by rw [List.length_set]; exact r.len
  exs := r.exs
  ex0 := r.ex0
  dom0 := r.dom0
  slot := fun j d hj => by
    by_cases c : j = i
    · subst c
      rw [List.getElem?_set] at hj
      simp only [if_true] at hj
      split at hj <;> cases hj
    · rw [List.getElem?_set, if_neg (fun z => c z.symm)] at hj
      obtain ⟨v, h1, h2⟩ := r.slot j d hj
      refine ⟨v, h1, ?_⟩
      rw [seal_ne c] at h2
      show SlotR cf.K cf.ob R Hs H (if j = i then [] else F j) (cf.kd j) v d
      rw [if_neg c]
      exact h2
  nod := fun j => by
    show (if j = i then [] else F j).Nodup
    split
    · exact List.nodup_nil
    · exact r.nod j
  dis := fun j k hjk a m => by
    have m : a ∈ (if j = i then [] else F j) := m
    show a ∉ (if k = i then [] else F k)
    split at m
    · cases m
    · split
      · exact fun z => by cases z
      · exact r.dis j k hjk a m
  fdom := fun j a m => by
    have m : a ∈ (if j = i then [] else F j) := m
    split at m
    · cases m
    · exact r.fdom j a m
  uns := fun j a m => by
    have m : a ∈ (if j = i then [] else F j) := m
    split at m
    · cases m
    · exact r.uns j a m
  new := fun j a m => by
    have m : a ∈ (if j = i then [] else F j) := m
    split at m
    · cases m
    · exact r.new j a m
  volw := fun j hj a m => by
    have m : a ∈ (if j = i then [] else F j) := m
    split at m
    · cases m
    · rename_i c
      exact r.volw j (by rw [seal_ne c]; exact hj) a m
  volb := fun j hj a m => by
    have m : a ∈ (if j = i then [] else F j) := m
    split at m
    · cases m
    · rename_i c
      exact r.volb j (by rw [seal_ne c]; exact hj) a m
  wdom := r.wdom
  ior := fun p hp => by
    obtain ⟨q1, q2, q3, q4, q5⟩ := r.ior p hp
    have c : (0 : Nat) ≠ i := fun z => by
      subst z
      rw [seal_i] at q3
      cases q3
    refine ⟨q1, by show (if 0 = i then [] else F 0) = [p]; rw [if_neg c]; exact q2, by rw [seal_ne c] at q3; exact q3, q4, ?_⟩
    rw [List.getElem?_set, if_neg (fun z => c z.symm)]
    exact q5
end
section
variable {X : Cx} {cf : Cf} {W : WX}
theorem Post.seal {R : Rs} {Hs Hs1 : Hp} {D : Ends} {x : Res Fl} {i : Nat} (hk : cf.kd i ≠ .W) (e : Ex Hs Hs1) (h : Post cf W R Hs D (fgR i x)) : Post (sealC cf i) W R Hs1 D x := by
  cases x with
  | ok f env' =>
    cases f with
    | nx => exact fun Hs' σ' H' F' wf' e' r => h Hs' σ' H' _ wf' (e.trans e') (r.unseal hk)
    | rt d => exact fun v Hs' σ' H' F' wf' e' r p => h v Hs' σ' H' _ wf' (e.trans e') (r.unseal hk) p
    | bk => exact fun Hs' σ' H' F' wf' e' r => h Hs' σ' H' _ wf' (e.trans e') (r.unseal hk)
    | ct => exact fun Hs' σ' H' F' wf' e' r => h Hs' σ' H' _ wf' (e.trans e') (r.unseal hk)
  | ex c env' => exact fun Hs' σ' H' F' wf' e' r => h Hs' σ' H' _ wf' (e.trans e') (r.unseal hk)
  | stuck => exact h
theorem sss_seal {i : Nat} {rest : List Stmt} {g : M Fl} (hk : cf.kd i = .M ∨ cf.kd i = .P) (h : SSs X (sealC cf i) W rest g) : SSs X cf W rest (sSeal i g) := by
  obtain ⟨t, p, s⟩ := h
  refine ⟨t, p, fun R Hs env σ H F wf r D hp => ?_⟩
  have hw : cf.kd i ≠ .W := by rcases hk with hk | hk <;> rw [hk] <;> exact fun z => by cases z
  exact s R _ env σ H _ wf (r.seal hk) D (Post.seal hw (shr_ex r) hp)
end
@[simp] theorem r_sSeal {i : Nat} {g : M Fl} {e : PEnv} : sSeal i g e = fgR i (g e) := rfl
@[simp] theorem fgR_ok {i : Nat} {f : Fl} {e : PEnv} : fgR i (.ok f e) = .ok f (e.set i none) := rfl
@[simp] theorem fgR_ex {i : Nat} {c : Str} {e : PEnv} : fgR i (.ex c e) = .ex c (e.set i none) := rfl
end MV
namespace MV
open PySem L2
open PySem.W (alike alikeAll dataLt minD AlikeAll AllAlike Sortable dataLe EachIs)
def leD (a b : D) : Bool := !ltD b a
def srtD (ds : List D) : List D := ds.mergeSort leD
def isTup1 : D → Bool
  | .tup (_ :: _) => true
  | _ => false
def gSortD : List D → Option D
  | [.lst ds] => if okO ds && ds.all isTup1 then some (.lst (srtD ds)) else none
  | _ => none
def rSortD (K : PySem.W.Frag) : List V → Hp → VK → Prop := fun vs H Q => ∃ (a : Addr) (bs : List (V × D)), vs = [.ref a] ∧ SqL K H a (bs.map (·.1)) ∧ DpAll K H (bs.map (·.1)) (bs.map fun b => b.2.P) ∧ AllAlike (bs.map fun b => b.2.P) ∧ Sortable (bs.map fun b => b.2.P) ∧ (∀ b ∈ bs, b.2.P.depth ≤ 60) ∧
  ∀ p, H p = none → Q (.ref p) (upd H p (.lst ((bs.mergeSort fun x y => leD x.2 y.2).map (·.1))))
theorem readsAll_eachI {h : Heap} {α : Type} {f : α → PyData} : ∀ {us : List Value} {bs : List α} {as : List Addr}, ReadsAll h us (bs.map f) as → EachIs (fun v b => ∃ as, Reads h v (f b) as) us bs
  | _, [], _, h => by cases h; exact .nil
  | _, b :: bs, _, h => by
    cases h with
    | cons h1 h2 => exact .cons ⟨_, h1⟩ (readsAll_eachI h2)
theorem vals_each {α : Type} {f : α → V} : ∀ {bs : List α} {us : List Value}, Vals (bs.map f) us → EachIs (fun v b => RelV (f b) v) us bs
  | [], _, h => by cases h; exact .nil
  | b :: bs, _, h => by
    cases h with
    | cons h1 h2 => exact .cons h1 (vals_each h2)
theorem each_vals {α : Type} {f : α → V} : ∀ {bs : List α} {us : List Value}, EachIs (fun v b => RelV (f b) v) us bs → Vals (bs.map f) us
  | _, _, .nil => .nil
  | _, _, .cons h r => .cons h (each_vals r)
theorem cr_sortD {X : Cx} (hu : X.A.units + 64 < cLine) : CallR X (.builtin "sorted") (rSortD X.K) := by
  intro pins s σ H vs us Q I r h
  obtain ⟨a, bs, rfl, hs, hd, al, so, dp, q⟩ := h
  obtain ⟨its, rv, hl, hz⟩ := I.list hs
  rw [Vals.ref1 r]
  obtain ⟨as, hr⟩ := Dp.readsAll I _ _ _ hd rv
  have hz' : bs.length ≤ sizeLine := by rw [List.length_map] at hz; exact hz
  refine PySem.W.sorted_data (R := fun v (b : V × D) => RelV b.1 v) (enc := fun b : V × D => b.2.P) hl.isList (vals_each (f := fun b : V × D => b.1) rv) (readsAll_eachI (f := fun b : V × D => b.2.P) hr) al so hz' (fun b hb => by have := dp b hb; omega) fun out ol oe => ?_
  obtain ⟨ep, he'⟩ := PyProof.Rows.sortedAll_at s.heap its out.toArray
  have le : (dataLe false fun b : V × D => b.2.P) = fun x y => leD x.2 y.2 := rfl
  rw [le] at oe
  have hv := each_vals oe
  have hlen : ((bs.mergeSort fun x y => leD x.2 y.2).map (·.1)).length ≤ sizeLine := by
    rw [List.length_map, List.length_mergeSort]; exact hz'
  exact ⟨.ref _, upd H (s.heap.objs.size + 1) (.lst ((bs.mergeSort fun x y => leD x.2 y.2).map (·.1))), I.laid (t' := s.toks) (fun _ _ => PyProof.Rows.sortedAll_old) (Nat.le_succ _) ⟨hlen, out, ep, hv, he'⟩, rfl, q _ (I.hok.fresh (Nat.le_succ _))⟩
theorem rpl_pairs {K : PySem.W.Frag} {x : Bool} {G : Hp} : ∀ {l : List (V × D)}, (∀ b ∈ l, Rp K x G b.1 b.2) → RpL K x G (l.map (·.1)) (l.map (·.2))
  | [], _ => .nil
  | b :: l, h => .cons (h b List.mem_cons_self) (rpl_pairs fun c hc => h c (List.mem_cons_of_mem _ hc))
theorem rpl_zip {K : PySem.W.Frag} {x : Bool} {G : Hp} : ∀ {vs : List V} {ds : List D}, RpL K x G vs ds → ∃ l : List (V × D), l.map (·.1) = vs ∧ l.map (·.2) = ds ∧ ∀ b ∈ l, Rp K x G b.1 b.2
  | _, _, .nil => ⟨[], rfl, rfl, by simp⟩
  | _, _, .cons h r => by
    obtain ⟨l, rfl, rfl, h2⟩ := rpl_zip r
    refine ⟨(_, _) :: l, rfl, rfl, fun b hb => ?_⟩
    rcases List.mem_cons.mp hb with rfl | hb
    · exact h
    · exact h2 b hb
theorem snd_sortD {K : PySem.W.Frag} : SndN K true (rSortD K) gSortD := fun G H xs ds d e h q Q k => by
  unfold gSortD at q
  split at q
  · rename_i es
    split at q
    · rename_i ok
      cases q
      rw [Bool.and_eq_true] at ok
      obtain ⟨ok, tu⟩ := ok
      obtain ⟨v, rfl, hv⟩ := h.one
      obtain ⟨a, ys, rfl, s1, r1⟩ := hv.lst_inv
      have s1 : G a = some (.lst ys) := s1
      obtain ⟨l, rfl, rfl, hl⟩ := rpl_zip r1
      have tp := toPs_all (okO_some ok)
      have dp := r1.dp e tp
      rw [List.map_map] at dp
      have al := okO_alike ok
      rw [List.map_map] at al
      have so : Sortable (l.map fun b => b.2.P) := .inl fun d hd => by
        obtain ⟨b, hb, rfl⟩ := List.mem_map.mp hd
        have hm : b.2 ∈ l.map (·.2) := List.mem_map.mpr ⟨b, hb, rfl⟩
        have t := List.all_eq_true.mp tu b.2 hm
        obtain ⟨p, hp⟩ := Option.isSome_iff_exists.mp (okO_some ok b.2 hm)
        rw [P_of hp]
        cases q : b.2 with
        | tup zs =>
          rw [q] at t hp
          cases zs with
          | nil => cases t
          | cons z zs =>
            rw [D.toP, toPs] at hp
            split at hp
            · simp at hp; exact ⟨_, _, hp.symm⟩
            · simp at hp
        | _ => rw [q] at t; cases t
      refine ⟨a, l, rfl, .inl (.inl (e _ _ s1)), dp, al.1, so, fun b hb => ?_, fun p hp => ?_⟩
      · have := List.all_eq_true.mp ok b.2 (List.mem_map.mpr ⟨b, hb, rfl⟩)
        rw [Bool.and_eq_true, Bool.and_eq_true, Bool.and_eq_true] at this
        exact of_decide_eq_true this.1.1.2
      · have pm : (l.mergeSort fun x y => leD x.2 y.2).map (·.2) = srtD (l.map (·.2)) := by
          unfold srtD
          exact List.map_mergeSort fun x _ y _ => rfl
        have rr : RpL K true G ((l.mergeSort fun x y => leD x.2 y.2).map (·.1)) (srtD (l.map (·.2))) := by
          rw [← pm]
          exact rpl_pairs fun b hb => hl b (List.mem_mergeSort.mp hb)
        exact k _ _ (Ex.new hp) (new_rp e hp rr) (new_nn (G := G) hp rr)
    · cases q
  · cases q
section
variable {X : Cx} {cf : Cf} {W : WX} {c : Cls}
theorem se_sortD {e : Expr} {ta : TA} {fa : M (List D)} {p pos : Pos} (hK : cf.K = X.K) (hc : X.calm = true) (hu : X.A.units + 64 < cLine) (hm : X.mg "sorted" = none) (ha : SA X cf W c [e] ta fa) (hg : Gl X "sorted" := by rfl) (he : starEach [e] X.env = (false, eval e X.env) :: starEach [] X.env := by rfl) :
    SE X cf W c true (.Call (.Name "sorted" p) [e] [] pos) (tCB (rSortD cf.K) ta) (eN gSortD fa) :=
  se_cb (by rw [hK]; exact cr_sortD hu) snd_sortD hg hm (by first | rfl | decide +kernel) ha (by decide) (by decide) he rfl
end
end MV
namespace MV
open PySem PySem.Spec PyProof.Rows L2
section
variable {X : Cx} {cf : Cf} {W : WX} {c : Cls} {n n1 n2 : Bool}
end
@[simp] theorem tyD_s {z : Str} : tyD (.str z) = "str" := (rfl)
end MV
namespace Ov
open PySem MV
def B_need_signs : M Fl := (sIf (tB (e2 gNe (eLc [1] (iL (eV 0)) (tgN 1) (tOr2 (tB (e2 gNe (eN gLen (aCons (eV 1) aNil)) (eC (.int 1)))) (tB (e2 gNotIn (eV 1) (eC (.str (Str.ofString "abcdefghijklmnopqrstuvwxyz")))))) (eV 1)) (eN gLst aNil))) (sRaise (Str.ofString "NoSign")) sSkip)
def F_need_signs : List D → FR := runF 2 B_need_signs
def T_greatest_borders_l1 : M Bool := (tAnd2 (tB (e2 gGt (eV 2) (eC (.int 0)))) (tB (e2 gNe (e2 gIx (eV 0) (eV 2)) (eV 4))))
def B_greatest_borders_l2 : M Fl := (sSet 2 (eS (e2 gIx (eV 1) (e2 gSub (eV 2) (eC (.int 1))))))
def B_greatest_borders_l3 : M Fl := (sSeq (sIf (tB (e2 gGt (eV 3) (eC (.int 0)))) (sSeq (sWhile T_greatest_borders_l1 B_greatest_borders_l2 WFUEL)
  (sAug (fun i j => i + j) 2 (eN gInt1 (aCons (e2 gEq (e2 gIx (eV 0) (eV 2)) (eV 4)) aNil)))) sSkip)
  (sApp 1 (eS (eV 2))))
def B_greatest_borders : M Fl := (sSeq (sSetM 1 (eN gLst aNil))
  (sSeq (sSet 2 (eC (.int 0)))
  (sSeq (sFor (iN gEn (aCons (eV 0) aNil)) (tgT [3, 4]) B_greatest_borders_l3)
  (sRet (eV 1)))))
def F_greatest_borders : List D → FR := runF 5 B_greatest_borders
def B__law_take : M Fl := (sSeq (sIf (tB (e2 gGt (eIxW 0 (eC (.int 0))) (eC (.int 0)))) (sSeq (sSet 2 (e2 gMod (eIxW 0 (eC (.int 0))) (eV 1)))
  (sSeq (sPutW 0 (e2 gFdiv (eIxW 0 (eC (.int 0))) (eV 1)) (eC (.int 0)))
  (sRet (eV 2)))) sSkip)
  (sSeq (sPutW 0 (e2 gMod (e2 gMul (eIxW 0 (eC (.int 1))) (eC (.int 48271))) (eC (.int 2147483647))) (eC (.int 1)))
  (sRet (e2 gMod (e2 gFdiv (e2 gPow (e2 gAdd (eIxW 0 (eC (.int 1))) (eC (.int 1))) (eC (.int 7))) (eC (.int 8))) (eV 1)))))
def F__law_take : List D → FR := runF 3 B__law_take
def T_borders_l1 : M Bool := (tB (e2 gGt (eV 3) (eC (.int 0))))
def B_borders_l2 : M Fl := (sSeq (sApp 1 (eS (eV 3)))
  (sSet 3 (e2 gIx (eV 2) (e2 gSub (eV 3) (eC (.int 1))))))
def B_borders : M Fl := (sSeq (sDrop (eCall F_need_signs (aCons (eV 0) aNil)))
  (sSeq (sSetM 1 (eN gLst aNil))
  (sSeq (sIf (tB (e2 gNe (eV 0) (eN gLst aNil))) (sSeq (sSet 2 (eCall F_greatest_borders (aCons (eV 0) aNil)))
  (sSeq (sSet 3 (e2 gIx (eV 2) (e1 gNeg (eC (.int 1)))))
  (sSeq (sWhile T_borders_l1 B_borders_l2 WFUEL)
  (sApp 1 (eC (.int 0)))))) sSkip)
  (sRet (e1 gRev (eV 1))))))
def F_borders : List D → FR := runF 4 B_borders
def B__law_signs : M Fl := (sRet (eF (eLc [3] (iN gR1 (aCons (eV 2) aNil)) (tgN 3) tTrue (e2 gIx (eV 1) (eCallW F__law_take 0 (aCons (eN gLen (aCons (eV 1) aNil)) aNil))))))
def F__law_signs : List D → FR := runF 4 B__law_signs
def B_periods : M Fl := (sRet (eLc [1] (iL (e1 gRev (eCall F_borders (aCons (eV 0) aNil)))) (tgN 1) tTrue (e2 gSub (eN gLen (aCons (eV 0) aNil)) (eV 1))))
def F_periods : List D → FR := runF 2 B_periods
def B_need_word : M Fl := (sIf (tB (e2 gEq (eV 0) (eN gLst aNil))) (sRaise (Str.ofString "NoWord")) sSkip)
def F_need_word : List D → FR := runF 1 B_need_word
def B_laid_at : M Fl := (sSeq (sSet 2 (eN gLen (aCons (eV 1) aNil)))
  (sRet (eF (eLc [3] (iN gR1 (aCons (e2 gAdd (e2 gSub (eN gLen (aCons (eV 0) aNil)) (eV 2)) (eC (.int 1))) aNil)) (tgN 3) (tB (e2 gEq (eSl (eV 0) (oSome (eV 3)) (oSome (e2 gAdd (eV 3) (eV 2)))) (eV 1))) (eV 3)))))
def F_laid_at : List D → FR := runF 4 B_laid_at
def B_lies_at : M Fl := (sSeq (sDrop (eCall F_need_word (aCons (eV 1) aNil)))
  (sSeq (sDrop (eCall F_need_signs (aCons (e2 gAdd (eV 0) (eV 1)) aNil)))
  (sRet (eCall F_laid_at (aCons (eV 0) (aCons (eV 1) aNil))))))
def F_lies_at : List D → FR := runF 2 B_lies_at
def B__law_word : M Fl := (sSeq (sSet 3 (eCallW F__law_take 0 (aCons (eC (.int 4)) aNil)))
  (sSeq (sSet 4 (e2 gAdd (eC (.int 1)) (eCallW F__law_take 0 (aCons (eN gMax2 (aCons (eC (.int 1)) (aCons (eN gLen (aCons (eV 2) aNil)) aNil))) aNil))))
  (sSeq (sSet 5 (eCallW F__law_take 0 (aCons (eN gMax2 (aCons (eC (.int 1)) (aCons (eN gLen (aCons (eV 2) aNil)) aNil))) aNil)))
  (sSeq (sSetM 6 (e2 gIx (eN gLst (aCons (eF (eSl (eV 2) oNone (oSome (eV 4)))) (aCons (eF (eSl (eV 2) (oSome (eV 5)) (oSome (e2 gAdd (eV 5) (eV 4))))) (aCons (eN gLst aNil) (aCons (eF (eSl (eV 2) oNone (oSome (e2 gAdd (eC (.int 1)) (e2 gMod (eV 4) (eC (.int 7))))))) aNil))))) (eS (eV 3))))
  (sSeq (sIf (tB (e2 gEq (eV 6) (eN gLst aNil))) (sSetM 6 (eCallW F__law_signs 0 (aCons (eV 1) (aCons (e2 gAdd (eC (.int 1)) (eCallW F__law_take 0 (aCons (eC (.int 6)) aNil))) aNil)))) sSkip)
  (sSeq (sIf (tB (e2 gEq (eCallW F__law_take 0 (aCons (eC (.int 8)) aNil)) (eC (.int 1)))) (sSeq (sSetM 6 (eF (eN gList1 (aCons (eV 6) aNil))))
  (sPut 6 (eS (e2 gIx (eV 1) (eCallW F__law_take 0 (aCons (eN gLen (aCons (eV 1) aNil)) aNil)))) (eCallW F__law_take 0 (aCons (eN gLen (aCons (eV 6) aNil)) aNil)))) sSkip)
  (sRet (eV 6))))))))
def F__law_word : List D → FR := runF 7 B__law_word
def B__law_kind : M Fl := (sSeq (sIf (tB (e2 gIsN (eV 0) (eC .non))) (sRet (eC (.str (Str.ofString "told")))) sSkip)
  (sSeq (sSet 1 (e1 (gIsXT [(Str.ofString "NoWord"), (Str.ofString "NoSign")] [(Str.ofString "NoChain"), (Str.ofString "NoForm"), (Str.ofString "NoNumber"), (Str.ofString "NoneYet"), (Str.ofString "TooMany")]) (eV 0)))
  (sSeq (sSetM 2 (eN gLst (aCons (e1 (gIsX [(Str.ofString "NoWord"), (Str.ofString "NoSign")] (Str.ofString "NoWord")) (eV 0)) (aCons (e1 (gIsX [(Str.ofString "NoWord"), (Str.ofString "NoSign")] (Str.ofString "NoSign")) (eV 0)) (aCons (e1 (gIsX [(Str.ofString "NoWord"), (Str.ofString "NoSign")] (Str.ofString "NoText")) (eV 0)) aNil)))))
  (sSeq (sApp 2 (e1 (gIsX [(Str.ofString "NoWord"), (Str.ofString "NoSign")] (Str.ofString "NoCover")) (eV 0)))
  (sSeq (sIf (tOr2 (tTr (eV 1)) (tOr2 (tNot1 (tB (e1 (gIsX [(Str.ofString "NoWord"), (Str.ofString "NoSign")] (Str.ofString "ValueError")) (eV 0)))) (tB (e2 gNe (eM "list" gCount (eV 2) (aCons (eC (.bl true)) aNil)) (eC (.int 1)))))) (sRet (eC (.str (Str.ofString "odd")))) sSkip)
  (sRet (e2 gIx (eN gLst (aCons (eC (.str (Str.ofString "NoWord"))) (aCons (eC (.str (Str.ofString "NoSign"))) (aCons (eC (.str (Str.ofString "NoText"))) (aCons (eC (.str (Str.ofString "NoCover"))) aNil))))) (eM "list" gIndex (eV 2) (aCons (eC (.bl true)) aNil)))))))))
def F__law_kind : List D → FR := runF 3 B__law_kind
def B__law_said_l1 : M Fl := (sIf (tB (e2 gEq (eV 0) (eC (.int 0)))) (sDrop (eCall F_borders (aCons (e2 gIx (eV 4) (eC (.int 0))) aNil))) (sIf (tB (e2 gEq (eV 0) (eC (.int 1)))) (sDrop (eCall F_periods (aCons (e2 gIx (eV 4) (eC (.int 0))) aNil))) (sDrop (eCall F_lies_at (aCons (e2 gIx (eV 4) (eC (.int 0))) (aCons (e2 gIx (eV 4) (eC (.int 1))) aNil))))))
def B__law_said : M Fl := (sSeq (sSet 3 (eC .non))
  (sSeq (sSet 4 (eN gTupD (aCons (eN gList1 (aCons (eV 1) aNil)) (aCons (eN gList1 (aCons (eV 2) aNil)) aNil))))
  (sSeq (sTryK [(Str.ofString "NoWord"), (Str.ofString "NoSign")] 3 5 B__law_said_l1)
  (sSeq (sIf (tB (e2 gNe (eV 4) (eN gTupD (aCons (eV 1) (aCons (eV 2) aNil))))) (sRet (eC (.str (Str.ofString "changed")))) sSkip)
  (sRet (eCall F__law_kind (aCons (eV 3) aNil)))))))
def F__law_said : List D → FR := runF 6 B__law_said
def B_need_text : M Fl := (sIf (tB (e2 gEq (eV 0) (eN gLst aNil))) (sRaise (Str.ofString "NoText")) sSkip)
def F_need_text : List D → FR := runF 1 B_need_text
def B_first_bare_l1 : M Fl := (sIf (tB (e2 gLe (eV 4) (eV 3))) (sSet 3 (eN gMax2 (aCons (eV 3) (aCons (e2 gAdd (eV 4) (eV 0)) aNil)))) sSkip)
def B_first_bare : M Fl := (sSeq (sSet 3 (eC (.int 0)))
  (sSeq (sFor (iL (eV 1)) (tgN 4) B_first_bare_l1)
  (sSeq (sIf (tB (e2 gLt (eV 3) (eV 2))) (sRet (eV 3)) sSkip)
  (sRet (eC .non)))))
def F_first_bare : List D → FR := runF 5 B_first_bare
def B_need_both : M Fl := (sSeq (sDrop (eCall F_need_word (aCons (eV 1) aNil)))
  (sSeq (sDrop (eCall F_need_signs (aCons (e2 gAdd (eV 0) (eV 1)) aNil)))
  (sDrop (eCall F_need_text (aCons (eV 0) aNil)))))
def F_need_both : List D → FR := runF 2 B_need_both
def B_covered : M Fl := (sSeq (sDrop (eCall F_need_both (aCons (eV 0) (aCons (eV 1) aNil))))
  (sSeq (sSet 2 (eCall F_lies_at (aCons (eV 0) (aCons (eV 1) aNil))))
  (sSeq (sSet 3 (eCall F_first_bare (aCons (eN gLen (aCons (eV 1) aNil)) (aCons (eV 2) (aCons (eN gLen (aCons (eV 0) aNil)) aNil)))))
  (sSeq (sIf (tB (e2 gIsN (eV 3) (eC .non))) (sRet (eN gTupD (aCons (eC (.str (Str.ofString "covers"))) (aCons (eV 2) aNil)))) sSkip)
  (sRet (eN gTupD (aCons (eC (.str (Str.ofString "bare"))) (aCons (eV 3) aNil))))))))
def F_covered : List D → FR := runF 4 B_covered
def B_all_covers : M Fl := (sSeq (sDrop (eCall F_need_signs (aCons (eV 0) aNil)))
  (sSeq (sDrop (eCall F_need_text (aCons (eV 0) aNil)))
  (sSeq (sSet 1 (eLc [2] (iL (eCall F_borders (aCons (eV 0) aNil))) (tgN 2) (tAnd2 (tB (e2 gGt (eV 2) (eC (.int 0)))) (tB (e2 gEq (e2 gIx (eCall F_covered (aCons (eV 0) (aCons (eSl (eV 0) oNone (oSome (eV 2))) aNil))) (eC (.int 0))) (eC (.str (Str.ofString "covers")))))) (eV 2)))
  (sRet (eF (e2 gAdd (eV 1) (eN gLst (aCons (eN gLen (aCons (eV 0) aNil)) aNil))))))))
def F_all_covers : List D → FR := runF 3 B_all_covers
def B_shortest_cover : M Fl := (sRet (e2 gIx (eCall F_all_covers (aCons (eV 0) aNil)) (eC (.int 0))))
def F_shortest_cover : List D → FR := runF 1 B_shortest_cover
def B_onward_l1 : M Fl := (sSeq (sSet 5 (eLc [6] (iL (eV 2)) (tgN 6) (tAnd2 (tB (eChain gLt gLe (eV 4) (eV 6) (e2 gAdd (eV 4) (eN gLen (aCons (eV 1) aNil))))) (tB (e2 gNotN (e2 gDIx (eV 3) (eS (eV 6))) (eC .non)))) (eS (e2 gDIx (eV 3) (eS (eV 6))))))
  (sSeq (sDP 3 (eC .non) (eV 4))
  (sIf (tB (e2 gEq (e2 gAdd (eV 4) (eN gLen (aCons (eV 1) aNil))) (eN gLen (aCons (eV 0) aNil)))) (sDP 3 (eC (.int 0)) (eV 4)) (sIf (tB (e2 gNe (eV 5) (eN gLst aNil))) (sDP 3 (e2 gAdd (eC (.int 1)) (eN gMin1 (aCons (eV 5) aNil))) (eV 4)) sSkip))))
def B_onward : M Fl := (sSeq (sSet 2 (eCall F_lies_at (aCons (eV 0) (aCons (eV 1) aNil))))
  (sSeq (sSetD 3 (eN gDNewK aNil))
  (sSeq (sFor (iL (e1 gRev (eV 2))) (tgN 4) B_onward_l1)
  (sRet (eV 3)))))
def F_onward : List D → FR := runF 7 B_onward
def T_fewest_layings_l1 : M Bool := (tB (e2 gGt (e2 gDIx (eV 2) (eS (e2 gIx (eV 3) (e1 gNeg (eC (.int 1)))))) (eC (.int 0))))
def B_fewest_layings_l2 : M Fl := (sSeq (sSet 4 (eS (e2 gIx (eV 3) (e1 gNeg (eC (.int 1))))))
  (sSeq (sSet 5 (eLc [6] (iL (eF (eN gSorted (aCons (eV 2) aNil)))) (tgN 6) (tB (eChain gLt gLe (eV 4) (eV 6) (e2 gAdd (eV 4) (eN gLen (aCons (eV 1) aNil))))) (eV 6)))
  (sApp 3 (eS (e2 gIx (eLc [6] (iL (eV 5)) (tgN 6) (tB (e2 gEq (e2 gDIx (eV 2) (eV 6)) (e2 gSub (e2 gDIx (eV 2) (eV 4)) (eC (.int 1))))) (eV 6)) (eC (.int 0)))))))
def B_fewest_layings : M Fl := (sSeq (sDrop (eCall F_need_both (aCons (eV 0) (aCons (eV 1) aNil))))
  (sSeq (sSet 2 (eCall F_onward (aCons (eV 0) (aCons (eV 1) aNil))))
  (sSeq (sIf (tB (e2 gIsN (eDGet1 (eV 2) (eC (.int 0))) (eC .non))) (sRaise (Str.ofString "NoCover")) sSkip)
  (sSeq (sSetM 3 (eN gLst (aCons (eC (.int 0)) aNil)))
  (sSeq (sWhile T_fewest_layings_l1 B_fewest_layings_l2 WFUEL)
  (sRet (eV 3)))))))
def F_fewest_layings : List D → FR := runF 7 B_fewest_layings
def B_hung_ahead_l1 : M Fl := (sIf (tB (e2 gEq (eSl (eV 1) (oSome (e2 gSub (eN gLen (aCons (eV 1) aNil)) (eV 2))) oNone) (eSl (eV 0) oNone (oSome (eV 2))))) (sRet (eS (eV 2))) sSkip)
def B_hung_ahead : M Fl := (sSeq (sFor (iN gR3 (aCons (eN gMin2 (aCons (eN gLen (aCons (eV 0) aNil)) (aCons (e2 gSub (eN gLen (aCons (eV 1) aNil)) (eC (.int 1))) aNil))) (aCons (eC (.int 0)) (aCons (e1 gNeg (eC (.int 1))) aNil)))) (tgN 2) B_hung_ahead_l1)
  (sRet (eC (.int 0))))
def F_hung_ahead : List D → FR := runF 3 B_hung_ahead
def B_hung_behind_l1 : M Fl := (sIf (tB (e2 gEq (eSl (eV 1) oNone (oSome (eV 2))) (eSl (eV 0) (oSome (e2 gSub (eN gLen (aCons (eV 0) aNil)) (eV 2))) oNone))) (sRet (eS (eV 2))) sSkip)
def B_hung_behind : M Fl := (sSeq (sFor (iN gR3 (aCons (eN gMin2 (aCons (eN gLen (aCons (eV 0) aNil)) (aCons (e2 gSub (eN gLen (aCons (eV 1) aNil)) (eC (.int 1))) aNil))) (aCons (eC (.int 0)) (aCons (e1 gNeg (eC (.int 1))) aNil)))) (tgN 2) B_hung_behind_l1)
  (sRet (eC (.int 0))))
def F_hung_behind : List D → FR := runF 3 B_hung_behind
def B__law_cell_at : M Fl := (sSeq (sIf (tB (e2 gLt (eV 1) (eLenQ 0))) (sRet (eIxQ 0 (eV 1))) sSkip)
  (sRet (eC (.int 0))))
def F__law_cell_at : List D → FR := runF 2 B__law_cell_at
def B_covers_amid_l1 : M Fl := (sIf (tB (e2 gLe (eV 5) (eV 4))) (sSet 4 (eN gMax2 (aCons (eV 4) (aCons (e2 gAdd (eV 5) (eN gLen (aCons (eV 1) aNil))) aNil)))) sSkip)
def B_covers_amid : M Fl := (sSeq (sSet 4 (eV 2))
  (sSeq (sFor (iL (eCall F_laid_at (aCons (eV 0) (aCons (eV 1) aNil)))) (tgN 5) B_covers_amid_l1)
  (sRet (e2 gGe (eV 4) (eV 3)))))
def F_covers_amid : List D → FR := runF 6 B_covers_amid
def B_is_within : M Fl := (sRet (e2 gNe (eCall F_laid_at (aCons (eV 1) (aCons (eV 0) aNil))) (eN gLst aNil)))
def F_is_within : List D → FR := runF 2 B_is_within
def B_rest_behind : M Fl := (sSeq (sDrop (eCall F_need_both (aCons (eV 0) (aCons (eV 1) aNil))))
  (sRet (eCall F_covers_amid (aCons (eV 0) (aCons (eV 1) (aCons (eC (.int 0)) (aCons (e2 gSub (eN gLen (aCons (eV 0) aNil)) (eCall F_hung_behind (aCons (eV 0) (aCons (eV 1) aNil)))) aNil)))))))
def F_rest_behind : List D → FR := runF 2 B_rest_behind
def B_rest_ahead : M Fl := (sSeq (sDrop (eCall F_need_both (aCons (eV 0) (aCons (eV 1) aNil))))
  (sRet (eCall F_covers_amid (aCons (eV 0) (aCons (eV 1) (aCons (eCall F_hung_ahead (aCons (eV 0) (aCons (eV 1) aNil))) (aCons (eN gLen (aCons (eV 0) aNil)) aNil)))))))
def F_rest_ahead : List D → FR := runF 2 B_rest_ahead
def B_covers_both : M Fl := (sSeq (sIf (tB (eCall F_is_within (aCons (eV 0) (aCons (eV 1) aNil)))) (sRet (eC (.bl true))) sSkip)
  (sRet (eCall F_covers_amid (aCons (eV 0) (aCons (eV 1) (aCons (eCall F_hung_ahead (aCons (eV 0) (aCons (eV 1) aNil))) (aCons (e2 gSub (eN gLen (aCons (eV 0) aNil)) (eCall F_hung_behind (aCons (eV 0) (aCons (eV 1) aNil)))) aNil)))))))
def F_covers_both : List D → FR := runF 2 B_covers_both
def B_rest_both : M Fl := (sSeq (sDrop (eCall F_need_both (aCons (eV 0) (aCons (eV 1) aNil))))
  (sRet (eCall F_covers_both (aCons (eV 0) (aCons (eV 1) aNil)))))
def F_rest_both : List D → FR := runF 2 B_rest_both
def B__law_kind_v4 : M Fl := (sSeq (sSet 1 (eN gLst (aCons (e1 (gIsX [(Str.ofString "NoWord"), (Str.ofString "NoSign"), (Str.ofString "NoText"), (Str.ofString "NoCover"), (Str.ofString "TooMany")] (Str.ofString "NoWord")) (eV 0)) (aCons (e1 (gIsX [(Str.ofString "NoWord"), (Str.ofString "NoSign"), (Str.ofString "NoText"), (Str.ofString "NoCover"), (Str.ofString "TooMany")] (Str.ofString "NoSign")) (eV 0)) (aCons (e1 (gIsX [(Str.ofString "NoWord"), (Str.ofString "NoSign"), (Str.ofString "NoText"), (Str.ofString "NoCover"), (Str.ofString "TooMany")] (Str.ofString "NoText")) (eV 0)) aNil)))))
  (sSeq (sSet 1 (e2 gAdd (eV 1) (eN gLst (aCons (e1 (gIsX [(Str.ofString "NoWord"), (Str.ofString "NoSign"), (Str.ofString "NoText"), (Str.ofString "NoCover"), (Str.ofString "TooMany")] (Str.ofString "NoCover")) (eV 0)) (aCons (e1 (gIsX [(Str.ofString "NoWord"), (Str.ofString "NoSign"), (Str.ofString "NoText"), (Str.ofString "NoCover"), (Str.ofString "TooMany")] (Str.ofString "NoNumber")) (eV 0)) (aCons (e1 (gIsX [(Str.ofString "NoWord"), (Str.ofString "NoSign"), (Str.ofString "NoText"), (Str.ofString "NoCover"), (Str.ofString "TooMany")] (Str.ofString "TooMany")) (eV 0)) aNil))))))
  (sSeq (sSet 2 (e1 (gIsXT [(Str.ofString "NoWord"), (Str.ofString "NoSign"), (Str.ofString "NoText"), (Str.ofString "NoCover"), (Str.ofString "TooMany")] [(Str.ofString "NoChain"), (Str.ofString "NoForm"), (Str.ofString "NoneYet")]) (eV 0)))
  (sSeq (sIf (tOr2 (tTr (eV 2)) (tOr2 (tNot1 (tB (e1 (gIsX [(Str.ofString "NoWord"), (Str.ofString "NoSign"), (Str.ofString "NoText"), (Str.ofString "NoCover"), (Str.ofString "TooMany")] (Str.ofString "ValueError")) (eV 0)))) (tB (e2 gNe (eM "list" gCount (eV 1) (aCons (eC (.bl true)) aNil)) (eC (.int 1)))))) (sRet (eC (.str (Str.ofString "odd")))) sSkip)
  (sRet (e2 gIx (eN gLst (aCons (eC (.str (Str.ofString "word"))) (aCons (eC (.str (Str.ofString "sign"))) (aCons (eC (.str (Str.ofString "text"))) (aCons (eC (.str (Str.ofString "cover"))) (aCons (eC (.str (Str.ofString "number"))) (aCons (eC (.str (Str.ofString "many"))) aNil))))))) (eM "list" gIndex (eV 1) (aCons (eC (.bl true)) aNil))))))))
def F__law_kind_v4 : List D → FR := runF 3 B__law_kind_v4
def B_all_shifts : M Fl := (sRet (eF (eLc [1] (iN gR2 (aCons (eC (.int 1)) (aCons (e2 gAdd (eN gLen (aCons (eV 0) aNil)) (eC (.int 1))) aNil))) (tgN 1) (tB (e2 gEq (eSl (eV 0) (oSome (eV 1)) oNone) (eSl (eV 0) oNone (oSome (e2 gSub (eN gLen (aCons (eV 0) aNil)) (eV 1)))))) (eV 1))))
def F_all_shifts : List D → FR := runF 2 B_all_shifts
def B_need_room : M Fl := (sSeq (sDrop (eCall F_need_word (aCons (eV 1) aNil)))
  (sSeq (sDrop (eCall F_need_signs (aCons (eV 1) aNil)))
  (sSeq (sDrop (eCall F_need_signs (aCons (eV 0) aNil)))
  (sIf (tB (e2 gLt (eN gLen (aCons (eV 0) aNil)) (eN gLen (aCons (eV 1) aNil)))) (sRaise (Str.ofString "NoText")) sSkip))))
def F_need_room : List D → FR := runF 2 B_need_room
def B_misses_l1 : M Fl := (sApp 4 (eF (e2 gAdd (e2 gIx (eV 4) (e1 gNeg (eC (.int 1)))) (eN gInt1 (aCons (e2 gNe (e2 gIx (eV 0) (e2 gAdd (eV 3) (eV 5))) (eV 6)) aNil)))))
def B_misses_l2 : M Fl := (sSeq (sSetM 4 (eN gLst (aCons (eC (.int 0)) aNil)))
  (sSeq (sFor (iN gEn (aCons (eV 1) aNil)) (tgT [5, 6]) B_misses_l1)
  (sAppMv 2 4)))
def B_misses : M Fl := (sSeq (sSetM 2 (eN gLst aNil))
  (sSeq (sFor (iN gR1 (aCons (e2 gAdd (e2 gSub (eN gLen (aCons (eV 0) aNil)) (eN gLen (aCons (eV 1) aNil))) (eC (.int 1))) aNil)) (tgN 3) B_misses_l2)
  (sRet (eV 2))))
def F_misses : List D → FR := runF 7 B_misses
def B_best_from_l1 : M Fl := (sIf (tAnd2 (tB (e2 gLe (e2 gAdd (eV 7) (eV 9)) (eV 5))) (tB (e2 gNotN (e2 gIxL (eV 6) (e2 gAdd (eV 7) (eV 9))) (eC .non)))) (sSeq (sUnp (e2 gIxL (eV 6) (e2 gAdd (eV 7) (eV 9))) (tgT [10, 11, 12]))
  (sSeq (sSet 13 (e2 gSub (e2 gIx (e2 gIx (eV 4) (eS (e2 gAdd (eV 7) (eV 9)))) (eV 3)) (e2 gIx (e2 gIx (eV 4) (eS (e2 gAdd (eV 7) (eV 9)))) (e2 gSub (eV 3) (eV 9)))))
  (sApp 8 (eN gTupD (aCons (eF (e2 gAdd (eV 10) (eV 13))) (aCons (eF (e2 gAdd (eV 11) (eC (.int 1)))) (aCons (eF (e2 gAdd (eV 7) (eV 9))) aNil))))))) sSkip)
def B_best_from_l2 : M Fl := (sSeq (sSetM 8 (eN gLst aNil))
  (sSeq (sFor (iL (eV 2)) (tgN 9) B_best_from_l1)
  (sPut 6 (eN gMinXL (aCons (eV 8) aNil)) (eV 7))))
def B_best_from : M Fl := (sSeq (sSet 2 (eCall F_all_shifts (aCons (eV 1) aNil)))
  (sSeq (sSet 3 (eN gLen (aCons (eV 1) aNil)))
  (sSeq (sSet 4 (eCall F_misses (aCons (eV 0) (aCons (eV 1) aNil))))
  (sSeq (sSet 5 (e2 gSub (eN gLen (aCons (eV 0) aNil)) (eV 3)))
  (sSeq (sSetM 6 (e2 gAdd (e2 gMul (eN gLst (aCons (eC .non) aNil)) (eS (eV 5))) (eN gLst (aCons (eN gTupD (aCons (eC (.int 0)) (aCons (eC (.int 0)) (aCons (eS (eV 5)) aNil)))) aNil))))
  (sSeq (sFor (iN gR3 (aCons (e2 gSub (eV 5) (eC (.int 1))) (aCons (e1 gNeg (eC (.int 1))) (aCons (e1 gNeg (eC (.int 1))) aNil)))) (tgN 7) B_best_from_l2)
  (sRet (eN gTupD (aCons (e2 gIx (e2 gIx (eV 4) (eC (.int 0))) (eV 3)) (aCons (eV 6) aNil))))))))))
def F_best_from : List D → FR := runF 14 B_best_from
def T_fewest_by_l1 : M Bool := (tB (e2 gLt (e2 gIx (eV 4) (e1 gNeg (eC (.int 1)))) (e2 gSub (eN gLen (aCons (eV 0) aNil)) (eN gLen (aCons (eV 1) aNil)))))
def B_fewest_by_l2 : M Fl := (sApp 4 (eS (e2 gIx (e2 gIx (eV 3) (eS (e2 gIx (eV 4) (e1 gNeg (eC (.int 1)))))) (eC (.int 2)))))
def B_fewest_by : M Fl := (sSeq (sUnp (eCall F_best_from (aCons (eV 0) (aCons (eV 1) aNil))) (tgT [2, 3]))
  (sSeq (sIf (tB (e2 gIsN (e2 gIx (eV 3) (eC (.int 0))) (eC .non))) (sRet (eC .non)) sSkip)
  (sSeq (sSetM 4 (eN gLst (aCons (eC (.int 0)) aNil)))
  (sSeq (sWhile T_fewest_by_l1 B_fewest_by_l2 WFUEL)
  (sRet (eN gTupD (aCons (eF (e2 gAdd (eV 2) (e2 gIx (e2 gIx (eV 3) (eC (.int 0))) (eC (.int 0))))) (aCons (eV 4) aNil))))))))
def F_fewest_by : List D → FR := runF 5 B_fewest_by
def B_fewest_wrong : M Fl := (sSeq (sDrop (eCall F_need_room (aCons (eV 0) (aCons (eV 1) aNil))))
  (sSeq (sSet 2 (eCall F_fewest_by (aCons (eV 0) (aCons (eV 1) aNil))))
  (sSeq (sIf (tB (e2 gIsN (eV 2) (eC .non))) (sRaise (Str.ofString "NoCover")) sSkip)
  (sRet (eV 2)))))
def F_fewest_wrong : List D → FR := runF 3 B_fewest_wrong
def B_need_length : M Fl := (sIf (tNot1 (tB (eChain gLe gLe (eC (.int 1)) (eV 0) (eC (.int 200))))) (sRaise (Str.ofString "NoNumber")) sSkip)
def F_need_length : List D → FR := runF 1 B_need_length
def B_need_whole_word : M Fl := (sSeq (sDrop (eCall F_need_word (aCons (eV 0) aNil)))
  (sDrop (eCall F_need_signs (aCons (eV 0) aNil))))
def F_need_whole_word : List D → FR := runF 1 B_need_whole_word
def B_next_shifts_l1 : M Fl := (sSeq (sSet 4 (e2 gAdd (eV 0) (eSl (eV 0) (oSome (e2 gSub (eN gLen (aCons (eV 0) aNil)) (eV 3))) oNone)))
  (sIf (tB (e2 gEq (eLc [6] (iL (eV 1)) (tgN 6) (tAnd2 (tB (e2 gLt (eV 6) (eV 3))) (tB (e2 gEq (eSl (eV 4) (oSome (eV 6)) (oSome (e2 gAdd (eV 6) (eN gLen (aCons (eV 0) aNil))))) (eV 0)))) (eV 6)) (eN gLst aNil))) (sApp 2 (eN gTupD (aCons (eF (eSl (eV 0) (oSome (e2 gSub (eN gLen (aCons (eV 0) aNil)) (eV 3))) oNone)) (aCons (eS (eV 3)) aNil)))) sSkip))
def B_next_shifts : M Fl := (sSeq (sSet 1 (eCall F_all_shifts (aCons (eV 0) aNil)))
  (sSeq (sSetM 2 (eN gLst aNil))
  (sSeq (sFor (iL (eV 1)) (tgN 3) B_next_shifts_l1)
  (sSeal 2 (sRet (eF (eLc [5, 3] (iL (eN gSortD (aCons (eV 2) aNil))) (tgT [5, 3]) tTrue (eV 3))))))))
def F_next_shifts : List D → FR := runF 7 B_next_shifts
def B_counts_to_l1 : M Fl := (sApp 3 (eN gSum (aCons (eLc [5] (iL (eV 2)) (tgN 5) (tB (e2 gLe (eV 5) (eV 4))) (eS (e2 gIx (eV 3) (e2 gSub (eV 4) (eV 5))))) aNil)))
def B_counts_to : M Fl := (sSeq (sSet 2 (eCall F_next_shifts (aCons (eV 0) aNil)))
  (sSeq (sSetM 3 (eN gLst (aCons (eC (.int 1)) aNil)))
  (sSeq (sFor (iN gR2 (aCons (eC (.int 1)) (aCons (e2 gAdd (e2 gSub (eV 1) (eN gLen (aCons (eV 0) aNil))) (eC (.int 1))) aNil))) (tgN 4) B_counts_to_l1)
  (sRet (eV 3)))))
def F_counts_to : List D → FR := runF 6 B_counts_to
def B_count_by : M Fl := (sSeq (sIf (tB (e2 gLt (eV 1) (eN gLen (aCons (eV 0) aNil)))) (sRet (eC (.int 0))) sSkip)
  (sRet (e2 gIx (eCall F_counts_to (aCons (eV 0) (aCons (eV 1) aNil))) (e2 gSub (eV 1) (eN gLen (aCons (eV 0) aNil))))))
def F_count_by : List D → FR := runF 2 B_count_by
def B_count_covered : M Fl := (sSeq (sDrop (eCall F_need_whole_word (aCons (eV 0) aNil)))
  (sSeq (sDrop (eCall F_need_length (aCons (eV 1) aNil)))
  (sRet (eCall F_count_by (aCons (eV 0) (aCons (eV 1) aNil))))))
def F_count_covered : List D → FR := runF 2 B_count_covered
def B__law_stir : M Fl := (sSeq (sSet 2 (e2 gAdd (e2 gAdd (e2 gMod (eV 0) (e2 gPow (eC (.int 10)) (eC (.int 60)))) (e2 gMul (eC (.int 3)) (eV 1))) (eC (.int 1))))
  (sRet (e2 gMod (e2 gFdiv (e2 gMul (e2 gMul (eV 2) (e2 gAdd (eV 2) (e2 gMul (eC (.int 2)) (eV 1)))) (e2 gAdd (eV 2) (eC (.int 5)))) (eC (.int 7))) (e2 gPow (eC (.int 10)) (eC (.int 40))))))
def F__law_stir : List D → FR := runF 3 B__law_stir
def B__law_digit : M Fl := (sSeq (sIf (tB (e2 gGe (eV 0) (e2 gPow (eC (.int 10)) (eC (.int 18))))) (sRet (e2 gMod (e2 gMod (e2 gShr (eV 0) (e2 gMul (eC (.int 16)) (eV 1))) (eC (.int 65536))) (eV 2))) sSkip)
  (sRet (e2 gMod (eCall F__law_stir (aCons (eV 0) (aCons (eV 1) aNil))) (eV 2))))
def F__law_digit : List D → FR := runF 3 B__law_digit
def B__law_word_v2 : M Fl := (sSeq (sSet 4 (eC (.str (Str.ofString "abcdefghijklmnopqrstuvwxyz"))))
  (sSeq (sSet 5 (eCall F__law_digit (aCons (eV 0) (aCons (eV 1) (aCons (eC (.int 26)) aNil)))))
  (sRet (eF (eLc [6] (iN gR1 (aCons (eV 2) aNil)) (tgN 6) tTrue (e2 gIx (eV 4) (e2 gMod (e2 gAdd (eV 5) (eCall F__law_digit (aCons (eV 0) (aCons (e2 gAdd (e2 gAdd (eV 1) (eC (.int 1))) (eV 6)) (aCons (eV 3) aNil))))) (eC (.int 26)))))))))
def F__law_word_v2 : List D → FR := runF 7 B__law_word_v2
end Ov
namespace MV
open PySem PySem.Spec PyProof.Rows L2
def PostO (cf : Cf) (W : WX) (R : Rs) (Hs : Hp) (i : Nat) (D : Ends) : Res Fl → Prop
  | .ok (.rt d) env' => ∀ v Hs' σ' H' F' wf', Ex Hs Hs' → Rel cf R Hs' env' σ' H' F' wf' → Own cf.K (TH (rs Hs' R.H0)) H' (F' i) v d → D.rt v H'
  | .ok .nx env' => ∀ Hs' σ' H' F' wf', Ex Hs Hs' → Rel cf R Hs' env' σ' H' F' wf' → D.nx σ' H'
  | .ex x env' => ∀ Hs' σ' H' F' wf', Ex Hs Hs' → Rel cf R Hs' env' σ' H' F' wf' → W (cf.cv x) none σ' H'
  | _ => False
theorem PostO.mono {cf : Cf} {W : WX} {R : Rs} {i : Nat} {Hs Hs' : Hp} {D : Ends} (e : Ex Hs Hs') : ∀ {g : Res Fl}, PostO cf W R Hs i D g → PostO cf W R Hs' i D g
  | .ok (.rt d) _, h => fun v Hs2 σ' H' F' wf' e2 r o => h v Hs2 σ' H' F' wf' (e.trans e2) r o
  | .ex _ _, h => fun Hs2 σ' H' F' wf' e2 r => h Hs2 σ' H' F' wf' (e.trans e2) r
  | .ok .nx _, h => fun Hs2 σ' H' F' wf' e2 r => h Hs2 σ' H' F' wf' (e.trans e2) r
  | .ok .bk _, h => h.elim
  | .ok .ct _, h => h.elim
  | .stuck, h => h.elim
section
variable {X : Cx} {cf : Cf} {W : WX} {c : Cls} {n n1 n2 : Bool} {i j : Nat}
end
section
variable {P : Program} {w : World} {K : PySem.W.Frag} {mg : Str → Option Value} {base : Heap}
end
end MV
namespace MV
open PySem PySem.Spec PyProof.Rows L2
def PostB (cf : Cf) (W : WX) (R : Rs) (Hs : Hp) (j : Nat) (σ : L2.St) (p : Addr) (xs : List V) (F : Nat → List Addr) (wf : List Addr) (D : Ends) : Res Fl → Prop
  | .ok .nx env' => ∀ Hs' H', Ex Hs Hs' → Rel cf R Hs' env' σ H' F wf → H' p = some (.lst xs) → env'[j]? = some none → D.nx σ H'
  | .ok (.rt d) env' => ∀ v Hs' H', Ex Hs Hs' → Rel cf R Hs' env' σ H' F wf → Rp cf.K true (rs (rm H' wf) R.H0) v d → D.rt v H'
  | .ex x env' => ∀ Hs' H', Ex Hs Hs' → Rel cf R Hs' env' σ H' F wf → W (cf.cv x) none σ H'
  | _ => False
theorem PostB.mono {cf : Cf} {W : WX} {R : Rs} {Hs Hs' : Hp} {j : Nat} {σ : L2.St} {p : Addr} {xs : List V} {F : Nat → List Addr} {wf : List Addr} {D : Ends} (e : Ex Hs Hs') : ∀ {g : Res Fl}, PostB cf W R Hs j σ p xs F wf D g → PostB cf W R Hs' j σ p xs F wf D g
  | .ok .nx _, h => fun Hs2 H' e2 r => h Hs2 H' (e.trans e2) r
  | .ok (.rt d) _, h => fun v Hs2 H' e2 r => h v Hs2 H' (e.trans e2) r
  | .ex _ _, h => fun Hs2 H' e2 r => h Hs2 H' (e.trans e2) r
  | .ok .bk _, h => h.elim
  | .ok .ct _, h => h.elim
  | .stuck, h => h.elim
section
variable {cf : Cf} {R : Rs} {Hs H : Hp} {env : PEnv} {σ : L2.St} {F : Nat → List Addr} {wf : List Addr}
theorem Rel.drop (r : Rel cf R Hs env σ H F wf) {j : Nat} (hw : cf.kd j ≠ .W) : Rel cf R Hs (env.set j none) σ H F wf where
  len := by rw [List.length_set]; exact r.len
  exs := r.exs
  ex0 := r.ex0
  dom0 := r.dom0
  slot := fun i d h => by
    rcases get_set h with ⟨rfl, e, hl⟩ | ⟨ne, h⟩
    · cases e
    · exact r.slot i d h
  nod := r.nod
  dis := r.dis
  fdom := r.fdom
  uns := r.uns
  new := r.new
  volw := r.volw
  volb := r.volb
  wdom := r.wdom
  ior := fun p h => by
    obtain ⟨h1, h2, h3, d', h4⟩ := r.ior p h
    have ne : j ≠ 0 := fun e => by subst e; exact hw h3
    exact ⟨h1, h2, h3, d', by rw [List.getElem?_set_ne ne]; exact h4⟩
theorem Rel.any (r : Rel cf R Hs env σ H F wf) {j : Nat} {v : V} (hj : env[j]? = some none) (hw : cf.kd j ≠ .W) : Rel cf R Hs env (σ.set j (some v)) H F wf where
  len := by rw [List.length_set]; exact r.len
  exs := r.exs
  ex0 := r.ex0
  dom0 := r.dom0
  slot := fun i d h => by
    have ne : j ≠ i := fun e => by subst e; rw [hj] at h; cases h
    obtain ⟨w, h1, h2⟩ := r.slot i d h
    exact ⟨w, by rw [List.getElem?_set_ne ne]; exact h1, h2⟩
  nod := r.nod
  dis := r.dis
  fdom := r.fdom
  uns := r.uns
  new := r.new
  volw := r.volw
  volb := r.volb
  wdom := r.wdom
  ior := fun p h => by
    obtain ⟨h1, h2, h3, d', h4⟩ := r.ior p h
    have ne : j ≠ 0 := fun e => by subst e; exact hw h3
    exact ⟨by rw [List.getElem?_set_ne ne]; exact h1, h2, h3, d', h4⟩
end
section
variable {X : Cx} {cf : Cf} {W : WX} {c : Cls} {n n1 n2 : Bool} {i j : Nat}
theorem OwnL.row {K : PySem.W.Frag} {T H : Hp} (hT : NL T) {F : List Addr} {xs : List V} {ds : List D} {k : Nat} {es : List D} {v : V} (h : OwnL K T H F xs ds) (nd : F.Nodup) (hk : ds[k]? = some (.lst es)) (hv : xs[k]? = some v) :
    ∃ q ys Fq, v = .ref q ∧ H q = some (.lst ys) ∧ q ∈ F ∧ OwnL K T H Fq ys es ∧ ∀ ys' es', (∀ H', (∀ a ∈ Fq, H' a = H a) → OwnL K T H' Fq ys' es') → OwnL K T (upd H q (.lst ys')) F xs (ds.set k (.lst es')) := by
  obtain ⟨q, ys, Fq, h1, h2⟩ := h.within hT nd k es hk
  rw [h1] at hv; cases hv
  exact ⟨q, ys, Fq, rfl, h2⟩
end
end MV
namespace Ov
open PySem MV
end Ov
namespace MV
open PySem PySem.Spec PyProof.Rows L2
section
variable {cf : Cf} {R : Rs} {Hs : Hp} {env : PEnv} {σ : L2.St} {H : Hp} {F : Nat → List Addr} {wf : List Addr}
theorem Rel.ext {env1 : PEnv} {Hs1 H1 : Hp} (r : Rel cf R Hs env σ H F wf) (s1 : Stp cf wf env Hs H env1 Hs1 H1) (r1 : Rel cf R Hs1 env1 σ H1 F wf) {i : Nat} {p : Addr} {o' : HO} {v : V} {d0 d' : D} {Fn : List Addr} (hw : cf.kd i ≠ .W) (hp : p ∈ F i) (he : env1[i]? = some (some d0)) (hv : σ[i]? = some (some v))
    (hn : Fn.Nodup) (hnew : ∀ a ∈ Fn, H a = none ∧ H1 a ≠ none) (hs : SlotR cf.K cf.ob R (rm Hs1 Fn) (upd H1 p o') (F i ++ Fn) (cf.kd i) v d') (hob : cf.ob = none := by rfl) : Rel cf R (rm Hs1 Fn) (env1.set i (some d')) σ (upd H1 p o') (fun j => if j = i then F i ++ Fn else F j) wf ∧ Ex Hs (rm Hs1 Fn) := by
  have old : ∀ a, H a ≠ none → a ∉ Fn := fun a h m => h (hnew a m).1
  have exs : Ex Hs (rm Hs1 Fn) := fun a o h => by
    have : a ∉ Fn := old a (by rw [r.exs a o h]; exact fun z => by cases z)
    unfold rm
    rw [if_neg this]
    exact s1.ex a o h
  have sub : Ex (rm Hs1 Fn) Hs1 := rm_sub _ _
  have pS : Hs1 p = none := r1.uns i p hp
  have hu : ∀ a, H1 a ≠ none → upd H1 p o' a ≠ none := fun a h => by
    by_cases e : a = p
    · subst e; rw [upd_same]; exact fun z => by cases z
    · rw [upd_ne e]; exact h
  have memE : ∀ {j : Nat} {a : Addr}, a ∈ (if j = i then F i ++ Fn else F j) → a ∈ F j ∨ (j = i ∧ a ∈ Fn) := fun {j a} m => by
    by_cases e : j = i
    · subst e; rw [if_pos rfl] at m; exact (List.mem_append.mp m).imp id fun m => ⟨rfl, m⟩
    · rw [if_neg e] at m; exact .inl m
  refine ⟨?_, exs⟩
  constructor
  case len => rw [List.length_set]; exact r1.len
  case exs =>
    intro a o h
    have h := sub a o h
    rw [upd_ne (fun e => by subst e; rw [pS] at h; cases h)]
    exact r1.exs a o h
  case ex0 => exact fun a o h n => exs a o (r.ex0 a o h n)
  case dom0 => exact fun a h => hu a (r1.dom0 a h)
  case slot =>
    intro j d'' h
    rcases get_set h with ⟨rfl, e, hl⟩ | ⟨ne, h⟩
    · cases e
      exact ⟨v, hv, by rw [if_pos rfl]; exact hs⟩
    · obtain ⟨w, h1, h2⟩ := r1.slot j d'' h
      refine ⟨w, h1, ?_⟩
      rw [if_neg (Ne.symm ne)]
      have np : ∀ a ∈ F j, a ≠ p := fun a m e => by subst e; exact r.dis i j ne _ hp m
      by_cases hw : cf.kd j = .W
      · rw [hw] at h2 ⊢
        obtain ⟨p2, xs, ds, e1, e2, e3, e4, e5⟩ := h2.resolve_right fun ⟨C, hC, _⟩ => by rw [hob] at hC; cases hC
        exact .inl ⟨p2, xs, ds, e1, e2, e3, by rw [upd_ne (np p2 (by rw [e3]; exact List.mem_singleton.mpr rfl))]; exact e4, e5⟩
      · have h' : env[j]? = some (some d'') := by rw [← s1.kp j hw]; exact h
        obtain ⟨w0, g1, g2⟩ := r.slot j d'' h'
        have ew : w0 = w := by rw [g1] at h1; cases h1; rfl
        subst ew
        have kp : ∀ a ∈ F j, ∀ o, H a = some o → upd H1 p o' a = some o := fun a m o ha => by
          rw [upd_ne (np a m)]; exact s1.keep a o (r.volb j hw a m) ha
        cases q : cf.kd j with
        | S => rw [q] at g2; exact Rp.mono exs g2
        | N => rw [q] at g2; exact Rp.mono (rs_mono exs) g2
        | Q => rw [q] at g2; exact Rp.mono exs g2
        | P => rw [q] at g2; exact Own.keep (th_mono (rs_mono exs)) g2 kp
        | M => rw [q] at g2; exact ⟨Own.keep (rs_mono exs) g2.1 kp, g2.2⟩
        | W => exact absurd q hw
  case nod =>
    intro j
    by_cases e : j = i
    · rw [if_pos e]
      exact List.nodup_append.mpr ⟨r.nod i, hn, fun a m b m2 e => by subst e; exact r.fdom i a m (hnew a m2).1⟩
    · rw [if_neg e]; exact r.nod j
  case dis =>
    intro j k ne a m m2
    rcases memE m with m | ⟨e, m⟩
    · rcases memE m2 with m2 | ⟨e2, m2⟩
      · exact r.dis j k ne a m m2
      · exact r.fdom j a m (hnew a m2).1
    · rcases memE m2 with m2 | ⟨e2, m2⟩
      · exact r.fdom k a m2 (hnew a m).1
      · exact ne (e.trans e2.symm)
  case fdom =>
    intro j a m
    rcases memE m with m | ⟨e, m⟩
    · exact hu a (r1.fdom j a m)
    · exact hu a (hnew a m).2
  case uns =>
    intro j a m
    rcases memE m with m | ⟨e, m⟩
    · unfold rm
      split
      · rfl
      · exact r1.uns j a m
    · unfold rm; rw [if_pos m]
  case new =>
    intro j a m
    rcases memE m with m | ⟨e, m⟩
    · exact r.new j a m
    · refine .inr ?_
      cases q : R.H0 a with
      | none => rfl
      | some o => exact absurd (hnew a m).1 (r.dom0 a (by rw [q]; exact fun z => by cases z))
  case volw =>
    intro j hk a m
    rcases memE m with m | ⟨e, m⟩
    · exact r.volw j hk a m
    · subst e; exact absurd hk hw
  case volb =>
    intro j hk a m z
    rcases memE m with m | ⟨e, m⟩
    · exact r.volb j hk a m z
    · exact (r.wdom a z).1 (hnew a m).1
  case wdom =>
    intro a m
    obtain ⟨g1, g2⟩ := r1.wdom a m
    refine ⟨hu a g1, ?_⟩
    unfold rm
    split
    · rfl
    · exact g2
  case ior =>
    intro q h
    obtain ⟨h1, h2, h3, d2, h4⟩ := r1.ior q h
    have ne : (0 : Nat) ≠ i := fun e => by subst e; exact hw h3
    exact ⟨h1, by rw [if_neg ne]; exact h2, h3, d2, by rw [List.getElem?_set_ne (Ne.symm ne)]; exact h4⟩
end
mutual
def D.tuo : D → Bool
  | .tup ds => tuoL ds
  | d => d.sc
def tuoL : List D → Bool
  | [] => true
  | d :: ds => D.tuo d && tuoL ds
end
mutual
theorem Rp.th {K : PySem.W.Frag} {G : Hp} : ∀ {v : V} {d : D}, Rp K true G v d → d.tuo = true → Rp K true (TH G) v d
  | _, _, .sc h, _ => .sc h
  | _, _, .tup h r, t => .tup (th_tup h) (RpL.th r (by rw [D.tuo] at t; exact t))
  | _, _, .lst h r, t => by rw [D.tuo] at t; · cases t
                            · intro _ z; cases z
  | _, _, .dic h l r, t => by rw [D.tuo] at t; · cases t
                              · intro _ z; cases z
  | _, _, .dit h l r, t => by rw [D.tuo] at t; · cases t
                              · intro _ z; cases z
  | _, _, .exc h, t => by rw [D.tuo] at t; · cases t
                          · intro _ z; cases z
theorem RpL.th {K : PySem.W.Frag} {G : Hp} : ∀ {vs : List V} {ds : List D}, RpL K true G vs ds → tuoL ds = true → RpL K true (TH G) vs ds
  | _, _, .nil, _ => .nil
  | _, _, .cons h r, t => by
    rw [tuoL, Bool.and_eq_true] at t
    exact .cons (Rp.th h t.1) (RpL.th r t.2)
end
section
variable {X : Cx} {cf : Cf} {W : WX} {c : Cls} {n n1 n2 : Bool}
end
end MV
namespace MV
open PySem PySem.Spec PyProof.Rows L2
section
variable {X : Cx} {cf : Cf} {W : WX} {c : Cls} {n n1 n2 : Bool}
end
section
variable {X : Cx} {P : Program} {w : World} {K : PySem.W.Frag} {tg : Expr} {d : Addr} {o : Obj} {es : Array DictEntry} {ep : Nat}
end
end MV
namespace MV
open PySem PySem.Spec PyProof.Rows L2
section
variable {K : PySem.W.Frag} {G G' : Hp} {p : Addr} {kvs : List (List Key × V)}
structure Swp (G G' : Hp) (p : Addr) (kvs : List (List Key × V)) : Prop where
  a : Rd G p (.dT kvs)
  b : Rd G' p (.dT kvs)
  off : ∀ q, q ≠ p → G' q = G q
theorem Swp.ne {q : Addr} {o : HO} (s : Swp G G' p kvs) (h : G q = some o) (n1 : o ≠ .dT kvs) (n2 : ∀ ob, o ≠ .frz ob (.dT kvs)) : q ≠ p := fun e => by
  subst e
  rcases s.a with z | ⟨ob, z⟩
  · rw [z] at h; cases h; exact n1 rfl
  · rw [z] at h; cases h; exact n2 ob rfl
theorem Swp.rs {B : Hp} (s : Swp G G' p kvs) (h : B p = none) : Swp (rs G B) (rs G' B) p kvs := by
  refine ⟨?_, ?_, fun q n => ?_⟩
  · unfold Rd; rw [rs_none h]; exact s.a
  · unfold Rd; rw [rs_none h]; exact s.b
  · cases z : B q with
    | none => rw [rs_none z, rs_none z]; exact s.off q n
    | some u => rw [rs_some z, rs_some z]
theorem swp_sql {x : Bool} {a : Addr} {xs : List V} (s : Swp G G' p kvs) (h : SqLx K x G a xs) : SqLx K x G' a xs := by
  cases x with
  | true =>
    have h : G a = some (.lst xs) := h
    show G' a = some (.lst xs)
    rw [s.off a (s.ne h (fun z => by cases z) fun _ z => by cases z)]; exact h
  | false =>
    rcases h with (h | ⟨o, h⟩) | h
    · exact .inl (.inl (by rw [s.off a (s.ne h (fun z => by cases z) fun _ z => by cases z)]; exact h))
    · exact .inl (.inr ⟨o, by rw [s.off a (s.ne h (fun z => by cases z) fun _ z => by cases z)]; exact h⟩)
    · exact .inr h
theorem swp_sqt {x : Bool} {a : Addr} {xs : List V} (s : Swp G G' p kvs) (h : SqTx K x G a xs) : SqTx K x G' a xs := by
  cases x with
  | true =>
    have h : G a = some (.tup xs) := h
    show G' a = some (.tup xs)
    rw [s.off a (s.ne h (fun z => by cases z) fun _ z => by cases z)]; exact h
  | false =>
    rcases h with (h | ⟨o, h⟩) | h
    · exact .inl (.inl (by rw [s.off a (s.ne h (fun z => by cases z) fun _ z => by cases z)]; exact h))
    · exact .inl (.inr ⟨o, by rw [s.off a (s.ne h (fun z => by cases z) fun _ z => by cases z)]; exact h⟩)
    · exact .inr h
theorem swp_dqk {x : Bool} {a : Addr} {ks : List (Key × V)} (s : Swp G G' p kvs) (h : DqK x G a ks) : DqK x G' a ks := by
  cases x with
  | true =>
    have h : G a = some (.dK ks) := h
    show G' a = some (.dK ks)
    rw [s.off a (s.ne h (fun z => by cases z) fun _ z => by cases z)]; exact h
  | false =>
    obtain ⟨o, h⟩ := h
    exact ⟨o, by rw [s.off a (s.ne h (fun z => by cases z) fun _ z => by cases z)]; exact h⟩
theorem swp_rd {a : Addr} {ks : List (List Key × V)} (s : Swp G G' p kvs) (h : Rd G a (.dT ks)) : Rd G' a (.dT ks) := by
  by_cases e : a = p
  · subst e
    have : ks = kvs := by
      rcases s.a with z | ⟨ob, z⟩ <;> rcases h with h | ⟨ob2, h⟩ <;> rw [z] at h <;> cases h <;> rfl
    rw [this]; exact s.b
  · unfold Rd; rw [s.off a e]; exact h
theorem swp_exh {a : Addr} {c : Value} (s : Swp G G' p kvs) (h : G a = some (ExH c a)) : G' a = some (ExH c a) := by
  rw [s.off a (s.ne h (fun z => by cases z) fun _ z => by cases z)]; exact h
mutual
theorem Rp.swp {x : Bool} (s : Swp G G' p kvs) : ∀ {v : V} {d : D}, Rp K x G v d → Rp K x G' v d
  | _, _, .sc h => .sc h
  | _, _, .lst h r => .lst (swp_sql s h) (RpL.swp s r)
  | _, _, .tup h r => .tup (swp_sqt s h) (RpL.swp s r)
  | _, _, .dic h l r => .dic (swp_dqk s h) l (RpL.swp s r)
  | _, _, .dit h l r => .dit (swp_rd s h) l (RpL.swp s r)
  | _, _, .exc h => .exc (swp_exh s h)
theorem RpL.swp {x : Bool} (s : Swp G G' p kvs) : ∀ {vs : List V} {ds : List D}, RpL K x G vs ds → RpL K x G' vs ds
  | _, _, .nil => .nil
  | _, _, .cons h r => .cons (Rp.swp s h) (RpL.swp s r)
end
end
mutual
theorem Own.keepR {K : PySem.W.Frag} {Hn Hn' H H' : Hp} (en : ∀ v d, Rp K true Hn v d → Rp K true Hn' v d) : ∀ {F : List Addr} {v : V} {d : D}, Own K Hn H F v d → (∀ a ∈ F, ∀ o, H a = some o → H' a = some o) → Own K Hn' H' F v d
  | _, _, _, .leaf h, _ => .leaf (en _ _ h)
  | _, _, _, .lst h r, e => .lst (e _ List.mem_cons_self _ h) (OwnL.keepR en r fun a m => e a (List.mem_cons_of_mem _ m))
  | _, _, _, .tup h r, e => .tup (e _ List.mem_cons_self _ h) (OwnL.keepR en r fun a m => e a (List.mem_cons_of_mem _ m))
  | _, _, _, .dic h l r, e => .dic (e _ List.mem_cons_self _ h) l (OwnL.keepR en r fun a m => e a (List.mem_cons_of_mem _ m))
  | _, _, _, .dit h l r, e => .dit (e _ List.mem_cons_self _ h) l (OwnL.keepR en r fun a m => e a (List.mem_cons_of_mem _ m))
theorem OwnL.keepR {K : PySem.W.Frag} {Hn Hn' H H' : Hp} (en : ∀ v d, Rp K true Hn v d → Rp K true Hn' v d) : ∀ {F : List Addr} {vs : List V} {ds : List D}, OwnL K Hn H F vs ds → (∀ a ∈ F, ∀ o, H a = some o → H' a = some o) → OwnL K Hn' H' F vs ds
  | _, _, _, .nil, _ => .nil
  | _, _, _, .cons h r, e => .cons (Own.keepR en h fun a m => e a (List.mem_append_left _ m)) (OwnL.keepR en r fun a m => e a (List.mem_append_right _ m))
end
theorem th_swp {G G' : Hp} {p : Addr} {kvs : List (List Key × V)} (s : Swp G G' p kvs) : Ex (TH G) (TH G') := fun a o h => by
  obtain ⟨xs, rfl, q⟩ := th_some h
  exact th_tup (by rw [s.off a (s.ne q (fun z => by cases z) fun _ z => by cases z)]; exact q)
section
variable {cf : Cf} {R : Rs} {Hs H : Hp} {env : PEnv} {σ : L2.St} {F : Nat → List Addr} {wf : List Addr} {p : Addr} {kvs : List (List Key × V)}
theorem swp_upd {o : HO} (a : Rd Hs p (.dT kvs)) (b : o = .dT kvs ∨ ∃ ob, o = .frz ob (.dT kvs)) : Swp Hs (upd Hs p o) p kvs :=
  ⟨a, by rcases b with rfl | ⟨ob, rfl⟩; · exact .inl upd_same
         · exact .inr ⟨ob, upd_same⟩, fun q n => upd_ne n⟩
theorem Rel.swp (r : Rel cf R Hs env σ H F wf) (a : Rd Hs p (.dT kvs)) (h0 : R.H0 p = none) {o : HO} (b : o = .dT kvs ∨ ∃ ob, o = .frz ob (.dT kvs)) : Rel cf R (upd Hs p o) env σ (upd H p o) F wf := by
  have s := swp_upd a b
  have pS : Hs p ≠ none := by rcases a with z | ⟨_, z⟩ <;> rw [z] <;> exact fun z => by cases z
  have nF : ∀ {i : Nat} {x : Addr}, x ∈ F i → x ≠ p := fun {i x} m e => by subst e; exact pS (r.uns i x m)
  have nW : ∀ {x : Addr}, x ∈ wf → x ≠ p := fun {x} m e => by subst e; exact pS (r.wdom x m).2
  have own : ∀ (i : Nat), ∀ x ∈ F i, ∀ o', H x = some o' → upd H p o x = some o' := fun i x m o' e => by rw [upd_ne (nF m)]; exact e
  refine
    { len := r.len
      exs := fun x o' h => by
        by_cases q : x = p
        · subst q; rw [upd_same] at h ⊢; exact h
        · rw [upd_ne q] at h ⊢; exact r.exs x o' h
      ex0 := fun x o' h n => by
        have q : x ≠ p := fun e => by subst e; rw [h0] at h; cases h
        rw [upd_ne q]; exact r.ex0 x o' h n
      dom0 := fun x h => by
        by_cases q : x = p
        · subst q; rw [upd_same]; exact fun z => by cases z
        · rw [upd_ne q]; exact r.dom0 x h
      slot := fun i d h => ?_
      nod := r.nod
      dis := r.dis
      fdom := fun i x m => by rw [upd_ne (nF m)]; exact r.fdom i x m
      uns := fun i x m => by rw [upd_ne (nF m)]; exact r.uns i x m
      new := r.new
      volw := r.volw
      volb := r.volb
      wdom := fun x m => by rw [upd_ne (nW m), upd_ne (nW m)]; exact r.wdom x m
      ior := r.ior }
  obtain ⟨v, h1, h2⟩ := r.slot i d h
  refine ⟨v, h1, ?_⟩
  have sr := s.rs (B := R.H0) h0
  cases q : cf.kd i with
  | S => rw [q] at h2; exact h2.swp s
  | Q => rw [q] at h2; exact h2.swp s
  | N => rw [q] at h2; exact h2.swp sr
  | P => rw [q] at h2; exact h2.keep (th_swp sr) (own i)
  | M => rw [q] at h2; exact ⟨h2.1.keepR (fun v d h => h.swp sr) (own i), h2.2⟩
  | W =>
    rw [q] at h2
    rcases h2 with ⟨p', xs, ds, e1, e2, e3, e4, e5⟩ | ⟨C, hC, h2⟩
    · exact .inl ⟨p', xs, ds, e1, e2, e3, own i p' (by rw [e3]; exact List.mem_cons_self) _ e4, e5⟩
    · exact .inr ⟨C, hC, h2.map (fun _ _ q => q.swp s) (fun _ _ q => q.swp sr) (own i)⟩
end
def nox : Res Fl → Res Fl
  | .ex _ _ => .stuck
  | r => r
section
variable {X : Cx} {cf : Cf} {W : WX} {c : Cls} {n n1 n2 : Bool}
def Lk (D : Ends) (p : Addr) (z u : HO) : Ends := ⟨fun σ' H' => H' p = some z ∧ D.nx σ' (upd H' p u), fun v H' => H' p = some z ∧ D.rt v (upd H' p u), fun σ' H' => H' p = some z ∧ D.bk σ' (upd H' p u), fun σ' H' => H' p = some z ∧ D.ct σ' (upd H' p u)⟩
theorem Post.lk {R : Rs} {Hs : Hp} {D : Ends} {p : Addr} {kvs : List (List Key × V)} {od : Obj} {g : Res Fl} (hu : Hs p = some (.dT kvs)) (h0 : R.H0 p = none) (hp : Post cf W R Hs D (nox g)) : Post cf W R (upd Hs p (.frz od (.dT kvs))) (Lk D p (.frz od (.dT kvs)) (.dT kvs)) g := by
  have ex : ∀ {Hs' : Hp}, Ex (upd Hs p (.frz od (.dT kvs))) Hs' → Hs' p = some (.frz od (.dT kvs)) ∧ Ex Hs (upd Hs' p (.dT kvs)) := fun {Hs'} e => ⟨e _ _ upd_same, fun a o h => by
    by_cases q : a = p
    · subst q; rw [upd_same]; rw [hu] at h; exact h
    · rw [upd_ne q]; exact e a o (by rw [upd_ne q]; exact h)⟩
  have th : ∀ {Hs' H' : Hp} {env' : PEnv} {σ' : L2.St} {F' : Nat → List Addr} {wf' : List Addr}, Ex (upd Hs p (.frz od (.dT kvs))) Hs' → Rel cf R Hs' env' σ' H' F' wf' → H' p = some (.frz od (.dT kvs)) ∧ Rel cf R (upd Hs' p (.dT kvs)) env' σ' (upd H' p (.dT kvs)) F' wf' := fun {Hs' H' env' σ' F' wf'} e r' => by
    obtain ⟨e1, e2⟩ := ex e
    exact ⟨r'.exs _ _ e1, r'.swp (.inr ⟨od, e1⟩) h0 (.inl rfl)⟩
  cases g with
  | stuck => exact hp
  | ex x e => exact hp.elim
  | ok f env' =>
    cases f with
    | nx => exact fun Hs' σ' H' F' wf' e r' => ⟨(th e r').1, hp _ σ' _ F' wf' (ex e).2 (th e r').2⟩
    | bk => exact fun Hs' σ' H' F' wf' e r' => ⟨(th e r').1, hp _ σ' _ F' wf' (ex e).2 (th e r').2⟩
    | ct => exact fun Hs' σ' H' F' wf' e r' => ⟨(th e r').1, hp _ σ' _ F' wf' (ex e).2 (th e r').2⟩
    | rt d =>
      intro v Hs' σ' H' F' wf' e r' pv
      obtain ⟨q1, q2⟩ := th e r'
      refine ⟨q1, hp v _ σ' _ F' wf' (ex e).2 q2 ?_⟩
      have nw : p ∉ wf' := fun m => by
        have := (r'.wdom p m).2
        rw [(ex e).1] at this
        cases this
      have s1 : Rd (rm H' wf') p (.dT kvs) := by unfold Rd rm; rw [if_neg nw]; exact .inr ⟨od, q1⟩
      have s2 : Rd (rm (upd H' p (.dT kvs)) wf') p (.dT kvs) := by unfold Rd rm; rw [if_neg nw, upd_same]; exact .inl rfl
      have s : Swp (rm H' wf') (rm (upd H' p (.dT kvs)) wf') p kvs := ⟨s1, s2, fun q n => by
        unfold rm
        split
        · rfl
        · exact upd_ne n⟩
      exact pv.swp (s.rs (B := R.H0) h0)
end
end MV
namespace Ov
open PySem MV
end Ov
namespace MV
open PySem PySem.Spec PyProof.Rows L2
section
variable {X : Cx} {cf : Cf} {W : WX} {c : Cls} {n n1 n2 n3 : Bool}
end
end MV
namespace Ov
open PySem MV
end Ov
namespace MV
open PySem PySem.Spec PyProof.Rows L2
theorem tuoL_get : ∀ {ds : List D} {i : Nat} {d : D}, tuoL ds = true → ds[i]? = some d → d.tuo = true
  | [], _, _, _, h => by simp at h
  | d :: ds, 0, _, t, h => by
    rw [tuoL, Bool.and_eq_true] at t
    cases h; exact t.1
  | d :: ds, i + 1, _, t, h => by
    rw [tuoL, Bool.and_eq_true] at t
    exact tuoL_get t.2 h
theorem ref_lst {K : PySem.W.Frag} {G : Hp} {a : Addr} {ys : List V} {d : D} (ha : G a = some (.lst ys)) (h : Rp K true G (.ref a) d) (t : d.tuo = true) : False := by
  generalize hv : V.ref a = v at h
  cases h with
  | sc h => subst hv; cases d <;> cases h
  | tup h r => cases hv; have h : G a = some (.tup _) := h; rw [ha] at h; cases h
  | lst h r => rw [D.tuo] at t; · cases t
               · intro _ z; cases z
  | dic h l r => rw [D.tuo] at t; · cases t
                 · intro _ z; cases z
  | dit h l r => rw [D.tuo] at t; · cases t
                 · intro _ z; cases z
  | exc h => rw [D.tuo] at t; · cases t
             · intro _ z; cases z
mutual
theorem Rp.thN {K : PySem.W.Frag} {G : Hp} {p a : Addr} {xs ys : List V} (hp : G p = some (.tup xs)) (ha : G a = some (.lst ys)) (hm : V.ref a ∈ xs) : ∀ {v : V} {d : D}, Rp K true G v d → d.tuo = true → Rp K true (TH (rm G [p, a])) v d
  | _, _, .sc h, _ => .sc h
  | _, .tup ds, .tup (a := b) h r, t => by
    have t : tuoL ds = true := by rw [D.tuo] at t; exact t
    have h : G b = some (.tup _) := h
    have nb : b ∉ [p, a] := fun m => by
      rcases List.mem_cons.mp m with rfl | m
      · rw [hp] at h; cases h
        obtain ⟨i, hi, e⟩ := List.getElem_of_mem hm
        obtain ⟨d', d1, d2⟩ := r.getV (by rw [List.getElem?_eq_getElem hi, e])
        exact ref_lst ha d2 (tuoL_get t d1)
      · rw [List.mem_singleton.mp m, ha] at h; cases h
    exact .tup (th_tup (by unfold rm; rw [if_neg nb]; exact h)) (RpL.thN hp ha hm r t)
  | _, _, .lst h r, t => by rw [D.tuo] at t; · cases t
                            · intro _ z; cases z
  | _, _, .dic h l r, t => by rw [D.tuo] at t; · cases t
                              · intro _ z; cases z
  | _, _, .dit h l r, t => by rw [D.tuo] at t; · cases t
                              · intro _ z; cases z
  | _, _, .exc h, t => by rw [D.tuo] at t; · cases t
                          · intro _ z; cases z
theorem RpL.thN {K : PySem.W.Frag} {G : Hp} {p a : Addr} {xs ys : List V} (hp : G p = some (.tup xs)) (ha : G a = some (.lst ys)) (hm : V.ref a ∈ xs) : ∀ {vs : List V} {ds : List D}, RpL K true G vs ds → tuoL ds = true → RpL K true (TH (rm G [p, a])) vs ds
  | _, _, .nil, _ => .nil
  | _, _, .cons h r, t => by
    rw [tuoL, Bool.and_eq_true] at t
    exact .cons (Rp.thN hp ha hm h t.1) (RpL.thN hp ha hm r t.2)
end
section
variable {X : Cx} {cf : Cf} {W : WX} {c : Cls} {n n1 n2 : Bool}
end
end MV
namespace Ov
open PySem MV
end Ov
namespace Ov
open PySem MV
end Ov
namespace MV
open PySem PySem.Spec PyProof.Rows L2
section
variable {X : Cx} {cf : Cf} {W : WX} {c : Cls}
end
end MV
namespace Ov
open PySem MV
end Ov
namespace MV
open PySem PySem.Spec PyProof.Rows L2
def keyOfS (e : Int × Value) : Str := match e.2 with | .str k _ => k | _ => Str.empty
def GoodES (w : World) (e : Int × Value) : Prop := ∃ k tk, e.2 = Value.str k tk ∧ e.1 = hashStr w k
def SetRS (w : World) (h : Heap) (a : Addr) (S : Str → Bool) (n : Nat) : Prop :=
  ∃ o es ep t, h.get? a = some o ∧ o.ExactSet ∧ o.data = .set es ep t ∧ (∀ e ∈ es.toList, GoodES w e) ∧ (es.toList.map keyOfS).Nodup ∧ (∀ k, S k = true ↔ k ∈ es.toList.map keyOfS) ∧
    es.size < scanBound ∧ t.fits es.size = true ∧ es.size = n ∧ Ris t.place.toList ∧ (w.params.followText "set-order" = true ∨ t.led = true)
section
variable {P : Program} {w : World} {h h' : Heap} {a : Addr} {S : Str → Bool} {n : Nat}
theorem SetRS.at (R : SetRS w h a S n) (k : ∀ o, h.get? a = some o → h'.get? a = some o) : SetRS w h' a S n := by
  obtain ⟨o, es, ep, t, ho, r⟩ := R
  exact ⟨o, es, ep, t, k o ho, r⟩
theorem SetRS.congr {S' : Str → Bool} (R : SetRS w h a S n) (e : ∀ k, S' k = S k) : SetRS w h a S' n := by
  have q : S' = S := funext e
  rw [q]; exact R
theorem goodS_elems {l : List (Int × Value)} (g : ∀ e ∈ l, GoodES w e) : ElemsOf (PySem.strKind P w) l := fun e he => by
  obtain ⟨k, tk, h1, h2⟩ := g e he
  exact ⟨⟨k, by rw [h1]; exact PySem.strKind_is P w k tk, h2⟩, by rw [h1] <;> rfl⟩
theorem goodS_is {e : Int × Value} (g : GoodES w e) (k : Str) : (PySem.strKind P w).is k e.2 = true ↔ keyOfS e = k := by
  obtain ⟨k0, tk, h1, _⟩ := g
  unfold keyOfS
  rw [h1]
  show ((k0 == k) = true) ↔ k0 = k
  exact beq_iff_eq
theorem goodS_mem {l : List (Int × Value)} (g : ∀ e ∈ l, GoodES w e) (k : Str) : k ∈ l.map keyOfS ↔ ∃ e ∈ l, (PySem.strKind P w).is k e.2 = true := by
  rw [List.mem_map]
  constructor
  · rintro ⟨e, he, q⟩
    exact ⟨e, he, (goodS_is (g e he) k).2 q⟩
  · rintro ⟨e, he, q⟩
    exact ⟨e, he, (goodS_is (g e he) k).1 q⟩
end
section
variable {P : Program} {w : World} {A : Around} {E : Value → Shared → Prop} {s : Shared} {a : Addr} {S : Str → Bool} {n : Nat}
theorem setRS_add_tail {g : Bool → Sem Unit} (hg : ∀ (b : Bool) (s₁ : Shared) (Q' : Unit → Shared → Prop), Q' () s₁ → wpAny (model P w) A (g b) Q' E s₁)
    {o : Obj} {es : Array (Int × Value)} {ep : Nat} {t : SetTable} (ho : s.heap.get? a = some o) (hex : o.ExactSet) (hd : o.data = .set es ep t)
    {es1 : Array (Int × Value)} {t2 : SetTable} {S' : Str → Bool} (g1 : ∀ e ∈ es1.toList, GoodES w e) (nd1 : (es1.toList.map keyOfS).Nodup) (m1 : ∀ k, S' k = true ↔ k ∈ es1.toList.map keyOfS)
    (hb1 : es1.size < scanBound) (hf2 : t2.fits es1.size = true) (hr : Ris t2.place.toList) (hl : w.params.followText "set-order" = true ∨ t2.led = true) {wasDummy : Bool} {R : Option Bool → Shared → Prop}
    (hR : ∀ h', Heap.SameBut a s.heap h' → SetRS w h' a S' es1.size → R (some true) { s with heap := h' }) :
    wpAny (model P w) A (do
        storeSet a es1 t2
        if (!wasDummy && t2.tooFull) = true then do
            g (relayAll t2 es1 (SetTable.grown es1.size)).2.2
            storeSet a (relayAll t2 es1 (SetTable.grown es1.size)).1 (relayAll t2 es1 (SetTable.grown es1.size)).2.1
            pure (some true)
          else pure (some true)) R E s := by
  refine wpAny_bind (wpAny_storeSet_of ho hd ?_ (fits_of_scanBound hb1))
  have ho1 := store_at (es' := es1) (t' := t2) ho hd
  have sb1 := Heap.SameBut.update s.heap a (Obj.putSet es1 t2)
  split
  · have pm := relayAll_perm t2 es1 (SetTable.grown es1.size)
    have hf3 := relayAll_fits t2 es1 (SetTable.grown es1.size)
    have hr3 := relayAll_ris t2 es1 (SetTable.grown es1.size)
    have hl3 := relayAll_led t2 es1 (SetTable.grown es1.size)
    generalize relayAll t2 es1 (SetTable.grown es1.size) = Z at pm hf3 hr3 hl3 ⊢
    obtain ⟨es2, t3, gave⟩ := Z
    dsimp only at pm hf3 hr3 hl3 ⊢
    have hsz : es2.size = es1.size := by rw [← Array.length_toList, pm.length_eq, Array.length_toList]
    have hb2 : es2.size < scanBound := by rw [hsz]; exact hb1
    refine wpAny_bind (hg _ _ _ ?_)
    refine wpAny_bind (wpAny_storeSet_of ho1 rfl ?_ (fits_of_scanBound hb2))
    have ho2 := store_at (es' := es2) (t' := t3) ho1 rfl
    refine wpAny_pure (hR _ (sb1.trans (Heap.SameBut.update _ a _)) ?_)
    exact ⟨_, es2, _, t3, ho2, hex, rfl, fun e he => g1 e (pm.mem_iff.mp he), (pm.map keyOfS).nodup_iff.mpr nd1, fun k => (m1 k).trans (pm.map keyOfS).mem_iff.symm, hb2, hf3, hsz, hr3,
      hl.imp id fun z => by rw [hl3]; exact z⟩
  · exact wpAny_pure (hR _ sb1 ⟨_, es1, _, t2, ho1, hex, rfl, g1, nd1, m1, hb1, hf2, rfl, hr, hl⟩)
theorem setRS_add_hashed {k : Str} {tk : Tok} {Q : Bool → Shared → Prop} (R : SetRS w s.heap a S n) (room : n + 1 < scanBound)
    (hQ : ∀ h', Heap.SameBut a s.heap h' → SetRS w h' a (fun j => S j || decide (j = k)) (if S k = true then n else n + 1) → Q (!S k) { s with heap := h' }) :
    wpAny (model P w) A (setAddHashed a (.str k tk) ((PySem.strKind P w).hash k)) Q E s := by
  obtain ⟨o, es, ep, t, ho, hex, hd, g, nd, hm, hb, hf, hn, hr, hl⟩ := R
  have hkey : (PySem.strKind P w).is k (.str k tk) = true := PySem.strKind_is P w k tk
  have hsc : (Value.str k tk).scannable = true := rfl
  have hel : ElemsOf (PySem.strKind P w) es.toList := goodS_elems g
  unfold setAddHashed setAddHashedIn
  refine wpAny_holding (wpAny_bind (wpAny_setState_of ho hd hf ?_))
  dsimp only
  rw [byScan_of hsc hb hel]
  simp only [↓reduceIte]
  unfold setAddByScan
  refine wpAny_bind ?_
  refine wpAny_bind (wpAny_rule ?_)
  refine wpAny_bind (wpAny_setScan_of hkey ho hd hf hel ?_)
  cases hfi : List.findIdx? (fun e => (PySem.strKind P w).is k e.2) es.toList with
  | some j =>
    dsimp only
    obtain ⟨hj, pj, _⟩ := List.findIdx?_eq_some_iff_getElem.mp hfi
    have hSk : S k = true := (hm k).2 ((goodS_mem (P := P) (w := w) g k).2 ⟨es.toList[j], List.getElem_mem hj, pj⟩)
    refine wpAny_pure (wpAny_pure ?_)
    have q := hQ s.heap (Heap.SameBut.refl a s.heap) ⟨o, es, ep, t, ho, hex, hd, g, nd, fun i => by
      rw [Bool.or_eq_true, decide_eq_true_eq, ← hm i]
      exact ⟨fun z => z.elim id (fun e => e ▸ hSk), .inl⟩, hb, hf, by rw [if_pos hSk]; exact hn, hr, hl⟩
    rw [hSk] at q
    exact q
  | none =>
    dsimp only
    have hnk : k ∉ es.toList.map keyOfS := fun z => by
      obtain ⟨e, he, q⟩ := (goodS_mem (P := P) (w := w) g k).1 z
      have c := List.findIdx?_eq_none_iff.mp hfi e he
      rw [q] at c
      cases c
    have hSk : S k = false := by
      cases q : S k with
      | false => rfl
      | true => exact absurd ((hm k).1 q) hnk
    have hgw : ∀ (b : Bool) {s₁ : Shared} {Q' : Unit → Shared → Prop}, Q' () s₁ → wpAny (model P w) A (match b with | true => rule "set.scan.the-table-gave-way" | false => pure ()) Q' E s₁ :=
      fun b s₁ Q' q => by cases b <;> first | exact wpAny_pure q | exact wpAny_rule q
    have pm := layNew_perm t es ((PySem.strKind P w).hash k) (.str k tk)
    have hf1 := layNew_fits t es ((PySem.strKind P w).hash k) (.str k tk)
    have hr1 := layNew_ris t es ((PySem.strKind P w).hash k) (.str k tk) hr
    have hl1 := layNew_led t es ((PySem.strKind P w).hash k) (.str k tk)
    generalize layNew t es ((PySem.strKind P w).hash k) (.str k tk) = Z at pm hf1 hr1 hl1 ⊢
    obtain ⟨es1, t1, wasDummy, gave⟩ := Z
    dsimp only at pm hf1 hr1 hl1 ⊢
    rw [Array.toList_push] at pm
    have pc : es1.toList.Perm (((PySem.strKind P w).hash k, Value.str k tk) :: es.toList) := pm.trans (List.perm_append_singleton _ _)
    have pk : (es1.toList.map keyOfS).Perm (k :: es.toList.map keyOfS) := pc.map keyOfS
    have g1 : ∀ e ∈ es1.toList, GoodES w e := fun e he => by
      rcases List.mem_cons.mp (pc.mem_iff.mp he) with z | z
      · rw [z]; exact ⟨k, tk, rfl, rfl⟩
      · exact g e z
    have nd1 : (es1.toList.map keyOfS).Nodup := pk.nodup_iff.mpr (List.nodup_cons.mpr ⟨hnk, nd⟩)
    have m1 : ∀ i, (S i || decide (i = k)) = true ↔ i ∈ es1.toList.map keyOfS := fun i => by
      rw [Bool.or_eq_true, decide_eq_true_eq, hm i, pk.mem_iff, List.mem_cons]
      exact Or.comm
    have hsz : es1.size = n + 1 := by rw [← Array.length_toList, pc.length_eq, List.length_cons, Array.length_toList, hn]
    have hb1 : es1.size < scanBound := by rw [hsz]; exact room
    have hled : w.params.followText "set-order" = true ∨ t1.led = true := hl.imp id fun z => by rw [hl1]; exact z
    have fin : ∀ h', Heap.SameBut a s.heap h' → SetRS w h' a (fun j => S j || decide (j = k)) es1.size → Q true { s with heap := h' } := fun h' sb r => by
      have q := hQ h' sb
      rw [hSk] at q
      rw [hsz] at r
      exact q r
    refine wpAny_bind (hgw _ ?_)
    split
    · refine wpAny_bind ?_
      rw [hashByValue_scannable 8 hsc]
      refine wpAny_pure ?_
      refine setRS_add_tail ?_ ho hex hd g1 nd1 m1 hb1 ?_ ?_ ?_ ?_
      · intro b s₁ Q' q; cases b <;> first | exact wpAny_pure q | exact wpAny_rule q
      · first | (split <;> first | exact hf1 | exact SetTable.fits_plain_off hf1) | exact hf1
      · first | (split <;> exact hr1) | exact hr1
      · first | (split <;> exact hled) | exact hled
      · intro h' sb r; dsimp only; exact wpAny_pure (fin h' sb r)
    · refine wpAny_bind (wpAny_pure ?_)
      simp only [↓reduceIte]
      refine setRS_add_tail ?_ ho hex hd g1 nd1 m1 hb1 hf1 hr1 hled ?_
      · intro b s₁ Q' q; cases b <;> first | exact wpAny_pure q | exact wpAny_rule q
      · intro h' sb r; dsimp only; exact wpAny_pure (fin h' sb r)
end
theorem setRS_new_at {w : World} {h : Heap} {a : Addr} {ns : List Str} (ho : h.get? a = some { cls := .type "set", dict := none, data := .set #[] 0 (.fresh 0 0 (!w.params.followText "set-order")) }) : SetRS w h a (fun j => decide (j ∈ ns.take 0)) 0 :=
  ⟨_, #[], 0, _, ho, ⟨rfl, rfl, rfl⟩, rfl, (fun e he => by simp at he), (by simp), (fun k => by simp), (by decide), (by rfl), rfl, List.Pairwise.nil, by
    show _ ∨ (!w.params.followText "set-order") = true
    cases w.params.followText "set-order"
    · exact .inr rfl
    · exact .inl rfl⟩
section
variable {P : Program} {w : World} {A : Around} {E : Value → Shared → Prop} {s : Shared}
theorem set_update_strs {I : Addr} {fp wr : List Addr} {G : Array GenState → Array GenState → Prop} {n : Nat} {Pv : Nat → Value → Prop} {St : Nat → Shared → Prop} {R : Result → Shared → Prop}
    (W : WalksS P w A.in1 I fp wr G n Pv St) (S : Addr) (hSf : S ∉ fp) (ns : List Str) (hn : n = ns.length) (hb : ns.length + 1 < scanBound) (hval : ∀ i v, Pv i v → ∃ k t, ns[i]? = some k ∧ v = .str k t) :
    ∀ (k i : Nat) (s : Shared), n - i = k → i ≤ n → St i s → (∃ c, c ≤ i ∧ SetRS w s.heap S (fun j => decide (j ∈ ns.take i)) c) →
      (∀ s' c, Moved (S :: wr) G s s' → c ≤ n → SetRS w s'.heap S (fun j => decide (j ∈ ns)) c → R (.ok (.ret .none)) s') →
      codeAny (model P w) A (.builtin "set.update.loop" ⟨[.ref S, .ref I], []⟩) R s := by
  have hSw : S ∉ wr := fun h => hSf (W.sub _ h)
  have hsub : ∀ b ∈ wr, b ∈ S :: wr := fun b hb => List.mem_cons_of_mem _ hb
  intro k
  induction k with
  | zero =>
    intro i s hk' hi hst ⟨c, hc, hS⟩ hR
    have hin : i = n := by omega
    subst hin
    refine codeAny_builtin F.entry_set_update_loop ?_
    rw [Around.under_plainId F.plain_set_update_loop _]
    show wpAny _ A.in1 (pyNext (.ref I) >>= _) _ _ s
    refine wpAny_bind (W.done s _ _ hst fun s' hm => ?_)
    show wpAny _ A.in1 (PySem.ret Value.none) _ _ s'
    have e : ns.take i = ns := List.take_of_length_le (by omega)
    rw [e] at hS
    exact wpAny_pure (hR s' c (hm.mono hsub) hc (hS.at fun o e => hm.heap S o hSw e))
  | succ k ih =>
    intro i s hk' hi hst ⟨c, hc, hS⟩ hR
    have hlt : i < n := by omega
    refine codeAny_builtin F.entry_set_update_loop ?_
    rw [Around.under_plainId F.plain_set_update_loop _]
    show wpAny _ A.in1 (pyNext (.ref I) >>= _) _ _ s
    refine wpAny_bind (W.item i s _ _ hlt hst fun v s' hP hst' hm => ?_)
    obtain ⟨z, t, hz, rfl⟩ := hval i v hP
    have hS' : SetRS w s'.heap S (fun j => decide (j ∈ ns.take i)) c := hS.at fun o e => hm.heap S o hSw e
    show wpAny _ A.in1 (holding [Value.str z t] (setAdd S (.str z t)) >>= _) _ _ s'
    refine wpAny_bind (wpAny_holding ?_)
    unfold setAdd
    refine wpAny_holding ?_
    refine wpAny_bind ((PySem.strKind P w).pyHash (k := z) (PySem.strKind_is _ _ _ _) ?_)
    refine setRS_add_hashed (s := { s' with toks := s'.toks + 1 }) hS' (by omega) fun h' hsb hS2 => ?_
    have hS3 : SetRS w h' S (fun j => decide (j ∈ ns.take (i + 1))) (if decide (z ∈ ns.take i) = true then c else c + 1) := hS2.congr fun j => by
      rw [List.take_add_one, hz]
      simp [List.mem_append]
    have hc3 : (if decide (z ∈ ns.take i) = true then c else c + 1) ≤ i + 1 := by
      split <;> omega
    refine wpAny_pure ⟨plainId_quiet F.plain_set_update_loop _, ih (i + 1) _ (by omega) hlt (W.frame _ s' _ _ hst' (Nat.le_succ _) fun b hb o e => ?_) ⟨_, hc3, hS3⟩ fun s'' c2 hm'' hc'' hS'' => ?_⟩
    · rw [hsb.2 b (fun h : b = S => hSf (by rw [← h]; exact hb))]; exact e
    · refine hR s'' c2 (Moved.trans W.gtrans ((hm.mono hsub).then_heap (Nat.le_succ _) fun b o hb e => ?_) hm'') hc'' hS''
      rw [hsb.2 b (fun h : b = S => hb (by rw [h]; exact List.mem_cons_self))]; exact e
end
section
variable {P : Program} {w : World} {A : Around} {E : Value → Shared → Prop} {s : Shared}
set_option maxHeartbeats 8000000 in
theorem call_set_lstS {l : Addr} {items : Array Value} (ns : List Str) {Q : Value → Shared → Prop} (hh : A.handled = none) (hl : s.heap.IsList l items) (hit : StrsAre items.toList ns) (hb : ns.length + 1 < scanBound)
    (h : ∀ (h' : Heap) (tk c : Nat), SetRS w h' s.heap.objs.size (fun j => decide (j ∈ ns)) c → c ≤ ns.length → (∀ b o, s.heap.get? b = some o → h'.get? b = some o) → Q (.ref s.heap.objs.size) { s with heap := h', toks := tk }) :
    wpAny (model P w) A (call (.type "set") [.ref l]) Q E s := by
  have hisz : items.size = ns.length := by
    have q := StrsAre.length hit
    rw [Array.length_toList] at q
    exact q
  obtain ⟨c, tl, hmro⟩ := F.called_set.mro
  have hmade := F.called_set.made
  have hsub := F.called_set.sub
  refine wpAny_call (codeAny_of_tree ?_)
  show wpAny _ _ (callAny (.type "set") _) _ _ _
  refine wpAny_pure ⟨Code.quiet_builtin _ (by decide +kernel), codeAny_builtin F.entry_type_call ?_⟩
  rw [Around.under_plain (weight_type_call_type "set" [.ref l] []) rfl]
  have h1 := F.called_set.notType
  have h2 := F.called_set.canCreate
  have hct := F.typeCall_set_1 (.ref l)
  repeat (any_goals (first | assumption | wp_step))
  refine codeAny_mono (code_set_led1 (.ref l) (E := E) (Q₁ := fun obj s₁ => obj = .ref s.heap.objs.size ∧ s₁ = { s with heap := s.heap.push { cls := .type "set", dict := none, data := .set #[] 0 (.fresh 0 0 (!w.params.followText "set-order")) } }) ⟨rfl, rfl⟩) fun r s₁ hr => ?_
  cases r with
  | error e => exact hr
  | ok fl =>
    cases fl with
    | ret obj =>
      obtain ⟨rfl, rfl⟩ := hr
      have hS : (s.heap.push { cls := .type "set", dict := none, data := .set #[] 0 (.fresh 0 0 (!w.params.followText "set-order")) }).get? s.heap.objs.size = some { cls := .type "set", dict := none, data := .set #[] 0 (.fresh 0 0 (!w.params.followText "set-order")) } := Heap.get?_push_size _ rfl
      have hT : Shared.TypeIs { s with heap := s.heap.push { cls := .type "set", dict := none, data := .set #[] 0 (.fresh 0 0 (!w.params.followText "set-order")) } } (.ref s.heap.objs.size) "set" := ⟨_, hS, rfl⟩
      have hli := F.called_set.init.lookup
      have hbi := F.called_set.init.bind (.ref s.heap.objs.size)
      repeat (any_goals (first | assumption | wp_step))
      refine codeAny_mono (codeAny_call_builtin (R := wants (fun r s₂ => r = .none ∧ ∃ h' tk c, s₂ = { s with heap := h', toks := tk } ∧ SetRS w h' s.heap.objs.size (fun j => decide (j ∈ ns)) c ∧ c ≤ ns.length ∧
          (∀ b o, s.heap.get? b = some o → h'.get? b = some o)) E) F.called_set.init.plain F.entry_set_init (check_set_init_1 hT ?_)) fun r₂ s₂ hr₂ => ?_
      · obtain ⟨ol, hol, hcl, nl, hdl⟩ := hl
        obtain ⟨ocls, odict, odata, oslots⟩ := ol
        simp only at hcl hdl
        subst hcl; subst hdl
        have hol' : (s.heap.push { cls := .type "set", dict := none, data := .set #[] 0 (.fresh 0 0 (!w.params.followText "set-order")) }).get? l = some { cls := .type "list", dict := odict, data := .seq items nl, slots := oslots } := Heap.get?_push_of_some _ hol
        have hsls := F.sub_list_set
        have hslf := F.sub_list_frozenset
        have hne : (Value.type "list" == Value.type "dict") = false := by decide
        have hl1 : (s.heap.push { cls := .type "set", dict := none, data := .set #[] 0 (.fresh 0 0 (!w.params.followText "set-order")) }).IsList l items := ⟨_, hol', rfl, nl, rfl⟩
        unfold Builtin.«set.__init__» noKeywords Builtin.Frozenset.updateFrom
        generalize hPI : pyIter = PI
        wp_walk
        subst hPI
        refine wpAny_pyIter_list hl1 ?_
        refine wpAny_bind (wpAny_runValue ?_)
        have hlS : l < s.heap.objs.size := Heap.lt_size hol
        have hh3 : A.in1.in1.in1.handled = none := by simp [hh]
        have hneI : l ≠ (s.heap.push { cls := .type "set", dict := none, data := .set #[] 0 (.fresh 0 0 (!w.params.followText "set-order")) }).objs.size := by
          rw [Heap.size_push]; exact Nat.ne_of_lt (Nat.lt_succ_of_lt hlS)
        have hSf : s.heap.objs.size ∉ [(s.heap.push { cls := .type "set", dict := none, data := .set #[] 0 (.fresh 0 0 (!w.params.followText "set-order")) }).objs.size, l] := by
          rw [Heap.size_push]; simp only [List.mem_cons, List.mem_singleton, List.not_mem_nil, or_false, not_or]
          exact ⟨Nat.ne_of_lt (Nat.lt_succ_self _), Nat.ne_of_gt hlS⟩
        have hval : ∀ (i : Nat) (v : Value), items[i]? = some v → ∃ k t, ns[i]? = some k ∧ v = .str k t := fun i v hv => by
          have hi : i < ns.length := by rw [← hisz]; exact (Array.getElem?_eq_some_iff.mp hv).1
          obtain ⟨t, e⟩ := SS.strs_at hit i v (by rw [Array.getElem?_toList]; exact hv)
          refine ⟨ns[i], t, List.getElem?_eq_getElem hi, ?_⟩
          rw [e, List.getD_eq_getElem?_getD, List.getElem?_eq_getElem hi] <;> rfl
        refine set_update_strs ((Walks.list hh3 _ l hneI items).toS) s.heap.objs.size
          hSf ns hisz hb hval (items.size - 0) 0 _ (by omega) (Nat.zero_le _)
          ⟨⟨_, Heap.get?_push_size _ rfl, rfl, rfl⟩, (hl1.push _)⟩ ?hS0 ?hR
        case hS0 =>
          have hget : ((s.heap.push { cls := .type "set", dict := none, data := .set #[] 0 (.fresh 0 0 (!w.params.followText "set-order")) }).push { cls := .type "list_iterator", data := .fields #[.ref l, .int 0 0] }).get? s.heap.objs.size
              = some { cls := .type "set", dict := none, data := .set #[] 0 (.fresh 0 0 (!w.params.followText "set-order")) } := Heap.get?_push_of_some _ hS
          exact ⟨0, Nat.le_refl 0, setRS_new_at hget⟩
        case hR =>
          intro s' c' hm hc' hS'
          obtain ⟨h', g2, d', tk', os'⟩ := s'
          have eg : g2 = s.gens := hm.gens
          have ed : d' = s.drawn := hm.drawn
          have eo : os' = s.os := hm.os
          subst eg; subst ed; subst eo
          show wpAny _ _ _ _ _ _
          refine wpAny_pure ?_
          show wpAny _ _ (PySem.ret Value.none) _ _ _
          rw [hisz] at hc'
          refine wpAny_pure ⟨rfl, h', tk', c', rfl, hS', hc', fun b o e => ?_⟩
          have hb0 : b < s.heap.objs.size := Heap.lt_size e
          have hb1 : b ≠ s.heap.objs.size := Nat.ne_of_lt hb0
          have hb2 : b ≠ (s.heap.push { cls := .type "set", dict := none, data := .set #[] 0 (.fresh 0 0 (!w.params.followText "set-order")) }).objs.size := by
            rw [Heap.size_push]; exact Nat.ne_of_lt (Nat.lt_succ_of_lt hb0)
          exact hm.heap b o (by simp only [List.mem_cons, List.mem_singleton, List.not_mem_nil, or_false, not_or]; exact ⟨hb1, hb2⟩) (Heap.get?_push_of_some _ (Heap.get?_push_of_some _ e))
      · cases r₂ with
        | error e => exact hr₂
        | ok fl₂ =>
          cases fl₂ with
          | ret r =>
            obtain ⟨rfl, h', tk, c', rfl, hS', hc', hk'⟩ := hr₂
            repeat (any_goals (first | assumption | wp_step))
            exact h _ _ _ hS' hc' hk'
          | _ => exact hr₂.elim
    | _ => exact hr.elim
end
section
variable {P : Program} {w : World} {A : Around} {E : Value → Shared → Prop} {s : Shared}
end
section
variable {X : Cx}
end
def asStrs : List D → Option (List Str)
  | [] => some []
  | .str i :: r => (asStrs r).map (i :: ·)
  | _ => none
theorem asStrs_map (ns : List Str) : asStrs (ns.map .str) = some ns := by
  induction ns with
  | nil => rfl
  | cons n ns ih => rw [List.map_cons, asStrs, ih]; rfl
theorem asStrs_rp {K : PySem.W.Frag} {x : Bool} {G : Hp} : ∀ {xs : List V} {ds : List D} {ns : List Str}, RpL K x G xs ds → asStrs ds = some ns → xs = ns.map V.str
  | _, _, _, .nil, q => by rw [asStrs] at q; cases q; rfl
  | _, d :: ds, ns, .cons h r, q => by
    cases d with
    | str i =>
      rw [asStrs] at q
      cases z : asStrs ds with
      | none => rw [z] at q; cases q
      | some ms => rw [z] at q; cases q; rw [h.str_inv, asStrs_rp r z]; rfl
    | _ => rw [asStrs] at q <;> first | cases q | (intros; rintro ⟨⟩)
section
variable {X : Cx} {cf : Cf} {W : WX} {c : Cls} {n n1 n2 : Bool}
end
end MV
namespace Ov
open PySem MV
end Ov
namespace MV
open PySem PySem.Spec PyProof.Rows L2
section
variable {X : Cx} {cf : Cf} {W : WX} {c : Cls} {n n1 n2 : Bool}
end
section
variable {P : Program} {w : World} {K : PySem.W.Frag} {mg : Str → Option Value} {base : Heap}
end
end MV
namespace MV
open PySem PySem.Spec PyProof.Rows L2
section
variable {prog : Program} {w : World} {A : Around} {E : Value → Shared → Prop} {s : Shared}
end
section
variable {X : Cx} {cf : Cf} {W : WX} {c : Cls} {n n1 n2 : Bool}
def tgL (is : List Nat) : D → M Unit := fun d e => match d with
  | .lst ds => match setAll is ds e with
    | some e' => .ok () e'
    | none => .stuck
  | _ => .stuck
@[simp] theorem r_tgL {is : List Nat} {ds : List D} {e : PEnv} : tgL is (.lst ds) e = ro (setAll is ds e) fun e' => .ok () e' := by
  cases q : setAll is ds e <;> simp [tgL, ro, q]
end
end MV
namespace Ov
open PySem MV
end Ov
namespace MV
open PySem PySem.Spec PyProof.Rows L2
section
variable {prog : Program} {w : World} {A : Around} {R : Result → Shared → Prop}
end
inductive SqLs (K : PySem.W.Frag) (H : Hp) : List V → List (List V) → Prop
  | nil : SqLs K H [] []
  | cons {b : Addr} {ws : List V} {vs : List V} {yss : List (List V)} : SqL K H b ws → SqLs K H vs yss → SqLs K H (.ref b :: vs) (ws :: yss)
section
variable {X : Cx}
end
def asLL : List D → Option (List (List D))
  | [] => some []
  | .lst ds :: r => (asLL r).map (ds :: ·)
  | _ => none
theorem SqLs.mono {K : PySem.W.Frag} {G H : Hp} (e : Ex G H) : ∀ {xs : List V} {ds : List D} {ess : List (List D)}, RpL K true G xs ds → asLL ds = some ess → ∃ yss, SqLs K H xs yss ∧ RpL K true G yss.flatten ess.flatten
  | _, _, _, .nil, q => by rw [asLL] at q; cases q; exact ⟨[], .nil, .nil⟩
  | _, d :: ds, ess, .cons h r, q => by
    cases d with
    | lst es =>
      rw [asLL] at q
      cases z : asLL ds with
      | none => rw [z] at q; cases q
      | some ms =>
        rw [z] at q
        cases q
        obtain ⟨yss, h1, h2⟩ := SqLs.mono e r z
        obtain ⟨a, ys, rfl, s1, r1⟩ := h.lst_inv
        exact ⟨ys :: yss, .cons (.inl (.inl (e _ _ s1))) h1, by rw [List.flatten_cons, List.flatten_cons]; exact r1.append h2⟩
    | _ => rw [asLL] at q <;> first | cases q | (intros; rintro ⟨⟩)
section
variable {X : Cx} {cf : Cf} {W : WX} {c : Cls} {n n1 n2 : Bool}
end
end MV
namespace Ov
open PySem MV
end Ov
namespace MV
open PySem PySem.Spec PyProof.Rows L2
theorem RpL.split {K : PySem.W.Frag} {x : Bool} {G : Hp} : ∀ {ds es : List D} {xs : List V}, RpL K x G xs (ds ++ es) → ∃ xa xb, xs = xa ++ xb ∧ RpL K x G xa ds ∧ RpL K x G xb es
  | [], es, xs, h => ⟨[], xs, rfl, .nil, h⟩
  | d :: ds, es, _, .cons h r => by
    obtain ⟨xa, xb, e, h1, h2⟩ := RpL.split (ds := ds) r
    subst e
    exact ⟨_ :: xa, xb, rfl, .cons h h1, h2⟩
section
variable {cf : Cf} {R : Rs} {Hs H : Hp} {env : PEnv} {σ : L2.St} {F : Nat → List Addr} {wf : List Addr}
end
section
variable {X : Cx} {cf : Cf} {W : WX} {c : Cls} {n n1 n2 : Bool}
end
end MV
namespace MV
open PySem PySem.Spec PyProof.Rows L2
section
variable {cf : Cf} {R : Rs} {Hs H : Hp} {env : PEnv} {σ : L2.St} {F : Nat → List Addr} {wf : List Addr}
end
section
variable {X : Cx} {cf : Cf} {W : WX} {c : Cls} {n n1 n2 : Bool}
end
end MV
namespace MV
open PySem PySem.Spec PyProof.Rows L2
structure PrT where
  p : Addr
  k : List Key
  q : Addr
  v : V
section
variable {X : Cx}
end
end MV
namespace MV
open PySem PySem.Spec PyProof.Rows L2
section
variable {P : Program} {w : World} {K : PySem.W.Frag} {tg : Expr} {d : Addr} {o : Obj} {es : Array DictEntry} {ep : Nat}
end
section
variable {cf : Cf} {W : WX} {c : Cls} {n n1 n2 : Bool}
end
section
variable {cf : Cf} {R : Rs} {Hs H : Hp} {env : PEnv} {σ : L2.St} {F : Nat → List Addr} {wf : List Addr}
end
section
variable {X : Cx} {cf : Cf} {W : WX} {c : Cls} {n n1 n2 : Bool}
end
end MV
namespace MV
open PySem PySem.Spec PyProof.Rows L2
end MV
namespace Ov
open PySem MV
end Ov
namespace MV
open PySem PySem.Spec PyProof.Rows L2
section
variable {X : Cx} {cf : Cf} {W : WX}
end
end MV
namespace Ov
open PySem MV
end Ov
namespace Ov
open PySem MV
end Ov
namespace MV
open PySem PySem.Spec PyProof.Rows L2
theorem toV_uniq {d d' : D} {v : V} (h : d.toV = some v) (h' : d'.toV = some v) : d = d' := by
  cases d <;> cases d' <;> simp only [D.toV, Option.some.injEq, reduceCtorEq] at h h' <;> subst h <;> simp_all
theorem toV_ref {d : D} {a : Addr} (h : d.toV = some (.ref a)) : False := by
  cases d <;> simp [D.toV] at h
section
variable {K : PySem.W.Frag} {x y : Bool} {G G' : Hp}
theorem scs_uniq : ∀ {xs : List V} {ds ds' : List D}, RpL K x G xs ds → RpL K y G' xs ds' → ds.all D.sc = true → ds'.all D.sc = true → ds = ds'
  | _, _, _, .nil, .nil, _, _ => rfl
  | _, _, _, .cons h r, .cons h' r', s, s' => by
    rw [List.all_cons, Bool.and_eq_true] at s s'
    rw [toV_uniq (h.toV s.1) (h'.toV s'.1), scs_uniq r r' s.2 s'.2]
theorem flat_uniq {H : Hp} {v : V} {t t' : D} (e : Ex G H) (e' : Ex G' H) (h : Rp K true G v t) (h' : Rp K true G' v t') (f : t.flat = true) (f' : t'.flat = true) : t = t' := by
  cases h with
  | sc hs =>
    cases h' with
    | sc hs' => exact toV_uniq hs hs'
    | lst _ _ => exact (toV_ref hs).elim
    | tup _ _ => exact (toV_ref hs).elim
    | dic _ _ _ => exact (toV_ref hs).elim
    | dit _ _ _ => exact (toV_ref hs).elim
    | exc _ => exact (toV_ref hs).elim
  | lst h1 r1 =>
    have h1 := e _ _ (show G _ = _ from h1)
    cases h' with
    | sc hs' => exact (toV_ref hs').elim
    | lst h2 r2 =>
      have h2 := e' _ _ (show G' _ = _ from h2)
      rw [h1] at h2
      cases h2
      rw [scs_uniq r1 r2 f f']
    | tup h2 r2 =>
      have h2 := e' _ _ (show G' _ = _ from h2)
      rw [h1] at h2
      cases h2
    | dic _ _ _ => cases f'
    | dit _ _ _ => cases f'
    | exc _ => cases f'
  | tup h1 r1 =>
    have h1 := e _ _ (show G _ = _ from h1)
    cases h' with
    | sc hs' => exact (toV_ref hs').elim
    | lst h2 r2 =>
      have h2 := e' _ _ (show G' _ = _ from h2)
      rw [h1] at h2
      cases h2
    | tup h2 r2 =>
      have h2 := e' _ _ (show G' _ = _ from h2)
      rw [h1] at h2
      cases h2
      rw [scs_uniq r1 r2 f f']
    | dic _ _ _ => cases f'
    | dit _ _ _ => cases f'
    | exc _ => cases f'
  | dic _ _ _ => cases f
  | dit _ _ _ => cases f
  | exc _ => cases f
end
def FldN (K : PySem.W.Frag) (H H' : Hp) (v : V) (t : D) (v' : V) (t' : D) : Prop := (v' = v ∧ t' = t) ∨ Rp K true (nw H H') v' t'
def spD (K : PySem.W.Frag) (cv : Str → Value) (C : Addr) (m : Nat) (F : List D → FR) : Sp := fun vs H Q E => vs.length = m ∧ ∃ p dx v1 v2 t w vs' ds, vs = .ref p :: vs' ∧ H p = some (.ins C dx (dkF v1 v2)) ∧ t.flat = true ∧ w.flat = true ∧ Rp K true (rm H [p]) v1 t ∧ Rp K true (rm H [p]) v2 w ∧ RpL K true (rm H [p]) vs' ds ∧ match F (.tup [t, w] :: ds) with
  | .ok d (.tup [t', w']) => ∀ v H' v1' v2', t'.flat = true → w'.flat = true → FldN K H H' v1 t v1' t' → FldN K H H' v2 w v2' w' → Ex (upd H p (.ins C dx (dkF v1' v2'))) H' → Rp K true (nw H H') v d → Q v H'
  | .ex x (.tup [t', w']) => ∀ H' v1' v2', t'.flat = true → w'.flat = true → FldN K H H' v1 t v1' t' → FldN K H H' v2 w v2' w' → Ex (upd H p (.ins C dx (dkF v1' v2'))) H' → E (cv x) none H'
  | _ => False
theorem tup2_of {io : D} (h : match io with | .tup [_, _] => True | _ => False) : ∃ t w, io = .tup [t, w] := by
  cases io with
  | tup l =>
    match l, h with
    | [a, b], _ => exact ⟨a, b, rfl⟩
  | _ => exact h.elim
def spI (C : Addr) : Sp := fun vs H Q _ => ∃ p dx, vs = [.ref p] ∧ H p = some (.ins C dx []) ∧ Q .non (upd H p (.ins C dx (dkF .non .non)))
def dskAt (i : Nat) (e : PEnv) : Option (D × D) := match e[i]? with
  | some (some (.tup [t, w])) => some (t, w)
  | _ => none
theorem dskAt_some {i : Nat} {e : PEnv} {t w : D} (h : dskAt i e = some (t, w)) : e[i]? = some (some (.tup [t, w])) := by
  unfold dskAt at h
  split at h
  · rename_i q; cases h; exact q
  · cases h
def eCallD (F : List D → FR) (i : Nat) (a : M (List D)) : M D := fun e => match dskAt i e with
  | none => .stuck
  | some _ => bnd a (fun ds => fun e => match dskAt i e with
    | some tw => (match F (.tup [tw.1, tw.2] :: ds) with
      | .ok d (.tup [t, w]) => if t.flat && w.flat then .ok d (e.set i (some (.tup [t, w]))) else .stuck
      | .ex x (.tup [t, w]) => if t.flat && w.flat then .ex x (e.set i (some (.tup [t, w]))) else .stuck
      | _ => .stuck)
    | none => .stuck) e
def eFld (i : Nat) (k : Bool) : M D := fun e => match dskAt i e with
  | some (t, w) => .ok (if k then w else t) e
  | none => .stuck
def sFldS (i : Nat) (k : Bool) (f : M D) : M Fl := bnd f fun d => fun e => match dskAt i e with
  | some (t, w) => if d.flat then .ok .nx (e.set i (some (.tup (if k then [t, d] else [d, w])))) else .stuck
  | none => .stuck
def sMkD (i : Nat) : M Fl := fun e => .ok .nx (e.set i (some (.tup [.non, .non])))
section
variable {X : Cx} {cf : Cf} {W : WX} {c : Cls} {n n1 n2 : Bool} {C : Addr} {i : Nat}
theorem own_desk {R : Rs} {Hs : Hp} {env : PEnv} {σ : L2.St} {H : Hp} {F : Nat → List Addr} {wf : List Addr} {t w : D} (r : Rel cf R Hs env σ H F wf) (hk : cf.kd i = .W) (hob : cf.ob = some C) (h : env[i]? = some (some (.tup [t, w]))) : ∃ p, σ[i]? = some (some (.ref p)) ∧ F i = [p] ∧ DeskR cf.K C R Hs H (F i) (.ref p) (.tup [t, w]) := by
  obtain ⟨v, h1, h2⟩ := r.slot i _ h
  rw [hk] at h2
  rcases h2 with ⟨p, xs, ds, e1, e2, _⟩ | ⟨C', hC, h2⟩
  · cases e2
  · rw [hob] at hC; cases hC
    obtain ⟨p, dx, v1, v2, t', w', e1, e2, e3, e4⟩ := id h2
    subst e1
    exact ⟨p, h1, e3, h2⟩
theorem desk_after {R : Rs} {Hs1 H1 H' : Hp} {env1 : PEnv} {σ : L2.St} {F0 : Nat → List Addr} {wf : List Addr} {p dx : Addr} {v1 v2 v1' v2' : V} {t w t' w' : D} (r1 : Rel cf R Hs1 env1 σ H1 F0 wf) (hk : cf.kd i = .W) (hob : cf.ob = some C) (q0 : env1[i]? = some (some (.tup [t, w]))) (hv : σ[i]? = some (some (.ref p))) (hF : F0 i = [p])
    (h1 : H1 p = some (.ins C dx (dkF v1 v2))) (f1 : t'.flat = true) (f2 : w'.flat = true) (rt : Rp cf.K true Hs1 v1 t) (rw_ : Rp cf.K true Hs1 v2 w) (io : R.io = some p → ∃ u1 u2, R.H0 p = some (.ins C dx (dkF u1 u2)) ∧ (v1 = u1 ∨ Rp cf.K true (rs Hs1 R.H0) v1 t) ∧ (v2 = u2 ∨ Rp cf.K true (rs Hs1 R.H0) v2 w))
    (g1 : FldN cf.K H1 H' v1 t v1' t') (g2 : FldN cf.K H1 H' v2 w v2' w') (x : Ex (upd H1 p (.ins C dx (dkF v1' v2'))) H') :
    Stp cf wf env1 Hs1 H1 (env1.set i (some (.tup [t', w']))) (grow Hs1 H1 H') H' ∧ Rel cf R (grow Hs1 H1 H') (env1.set i (some (.tup [t', w']))) σ H' F0 wf := by
  have hp : p ∈ F0 i := by rw [hF]; exact List.mem_singleton.mpr rfl
  have hpH : H1 p ≠ none := by rw [h1]; exact fun z => by cases z
  -- the heap with the old desk
  have x0 : Ex H1 (upd H' p (.ins C dx (dkF v1 v2))) := fun a o h => by
    by_cases e : a = p
    · subst e; rw [upd_same, ← h1]; exact h
    · rw [upd_ne e]; exact x a o (by rw [upd_ne e]; exact h)
  have hp' : H' p = some (.ins C dx (dkF v1' v2')) := x p _ upd_same
  have eg : grow Hs1 H1 (upd H' p (.ins C dx (dkF v1 v2))) = grow Hs1 H1 H' := by
    funext a
    unfold grow
    cases z : H1 a with
    | some o => rfl
    | none =>
      have ne : a ≠ p := fun e => by subst e; exact hpH z
      show upd H' p _ a = H' a
      rw [upd_ne ne]
  have r2 := r1.grow x0
  rw [eg] at r2
  have eh : upd (upd H' p (.ins C dx (dkF v1 v2))) p (.ins C dx (dkF v1' v2')) = H' := by
    funext a
    by_cases e : a = p
    · subst e; rw [upd_same, hp']
    · rw [upd_ne e, upd_ne e]
  have exg : Ex Hs1 (grow Hs1 H1 H') := fun a o h => by rw [grow_some (r1.exs a o h)]; exact h
  have ng : Ex (nw H1 H') (grow Hs1 H1 H') := fun a o h => by
    cases z : H1 a with
    | some u => rw [nw_some z] at h; cases h
    | none => rw [nw_none z] at h; rw [grow_none z]; exact h
  have nr : Ex (nw H1 H') (rs (grow Hs1 H1 H') R.H0) := fun a o h => by
    have h2 := ng a o h
    have h0 : R.H0 a = none := by
      cases z : R.H0 a with
      | none => rfl
      | some u =>
        have := r1.dom0 a (by rw [z]; exact fun y => by cases y)
        cases y : H1 a with
        | none => exact absurd y this
        | some o' => rw [nw_some y] at h; cases h
    rw [rs_none h0]; exact h2
  have fld : ∀ {v v' : V} {t t' : D}, Rp cf.K true Hs1 v t → FldN cf.K H1 H' v t v' t' → Rp cf.K true (grow Hs1 H1 H') v' t' := fun {v v' t t'} h g => by
    rcases g with ⟨rfl, rfl⟩ | g
    · exact h.mono exg
    · exact g.mono ng
  have r3 := r2.mut (i := i) (p := p) (o' := .ins C dx (dkF v1' v2')) (v := .ref p) (d' := .tup [t', w']) hp q0 hv (by
    rw [hk, hob, hF]
    refine .inr ⟨C, rfl, p, dx, v1', v2', t', w', rfl, rfl, rfl, upd_same, f1, f2, fld rt g1, fld rw_ g2, fun z => ?_⟩
    obtain ⟨u1, u2, a1, a2, a3⟩ := io z
    refine ⟨u1, u2, a1, ?_, ?_⟩
    · rcases g1 with ⟨rfl, rfl⟩ | g1
      · exact a2.imp id fun q => q.mono (rs_mono exg)
      · exact .inr (g1.mono nr)
    · rcases g2 with ⟨rfl, rfl⟩ | g2
      · exact a3.imp id fun q => q.mono (rs_mono exg)
      · exact .inr (g2.mono nr))
  rw [eh] at r3
  refine ⟨⟨fun a h => ?_, exg, fun a o hw h => ?_, fun a h => ?_, fun j hj => ?_⟩, r3⟩
  · by_cases e : a = p
    · subst e; rw [hp']; exact fun z => by cases z
    · exact x.dom (by rw [upd_ne e]; exact h)
  · have : a ≠ p := fun e => by subst e; exact hw (r1.volw i hk _ hp)
    exact x a o (by rw [upd_ne this]; exact h)
  · cases z : H1 a with
    | none => exact absurd z h
    | some o => rw [grow_some z]
  · rw [List.getElem?_set_ne (fun e => by subst e; exact hj hk)]
theorem desk_sp {F : List D → FR} {m : Nat} {ta : TA} {fa : M (List D)} (hk : cf.kd i = .W) (hob : cf.ob = some C) (h : SdA cf W .B ta fa) (hm : ∀ ds env env', fa env = .ok ds env' → ds.length + 1 = m) {R : Rs} {Hs : Hp} {env : PEnv} {σ : L2.St} {H : Hp} {F0 : Nat → List Addr} {wf : List Addr} (r : Rel cf R Hs env σ H F0 wf) (Q : VK) :
    match eCallD F i fa env with
    | .ok d env' => (∀ v Hs' H', Stp cf wf env Hs H env' Hs' H' → Rel cf R Hs' env' σ H' F0 wf → Rp cf.K true (rs Hs' H) v d → Q v H') → ∃ p dx v1 v2, σ[i]? = some (some (.ref p)) ∧ H p = some (.ins C dx (dkF v1 v2)) ∧ ta σ H fun vs H1 => spD cf.K cf.cv C m F (.ref p :: vs) H1 Q (WE W σ)
    | .ex x env' => (∀ Hs' H', Stp cf wf env Hs H env' Hs' H' → Rel cf R Hs' env' σ H' F0 wf → W (cf.cv x) none σ H') → ∃ p dx v1 v2, σ[i]? = some (some (.ref p)) ∧ H p = some (.ins C dx (dkF v1 v2)) ∧ ta σ H fun vs H1 => spD cf.K cf.cv C m F (.ref p :: vs) H1 Q (WE W σ)
    | .stuck => True := by
  have key : ∀ {p : Addr} {env1 : PEnv} {Hs1 H1 : Hp} {vs : List V} {ds : List D} {t w : D}, σ[i]? = some (some (.ref p)) → Rel cf R Hs1 env1 σ H1 F0 wf → RpL cf.K true (rm H1 wf) vs ds → dskAt i env1 = some (t, w) → ds.length + 1 = m →
      (match F (.tup [t, w] :: ds) with
      | .ok d (.tup [t', w']) => t'.flat && w'.flat → ∀ v H', Stp cf wf env1 Hs1 H1 (env1.set i (some (.tup [t', w']))) (grow Hs1 H1 H') H' → Rel cf R (grow Hs1 H1 H') (env1.set i (some (.tup [t', w']))) σ H' F0 wf → Rp cf.K true (nw H1 H') v d → Q v H'
      | .ex x (.tup [t', w']) => t'.flat && w'.flat → ∀ H', Stp cf wf env1 Hs1 H1 (env1.set i (some (.tup [t', w']))) (grow Hs1 H1 H') H' → Rel cf R (grow Hs1 H1 H') (env1.set i (some (.tup [t', w']))) σ H' F0 wf → W (cf.cv x) none σ H'
      | _ => False) → spD cf.K cf.cv C m F (.ref p :: vs) H1 Q (WE W σ) := by
    intro p env1 Hs1 H1 vs ds t w hv r1 pa q1 hl hh
    obtain ⟨p2, hv2, hF2, p3, dx, v1, v2, t3, w3, c1, c2, c3, c4, c5, c6, c7, c8, c9⟩ := own_desk r1 hk hob (dskAt_some q1)
    rw [hv] at hv2; cases hv2
    cases c1; cases c2
    have pS : Hs1 p = none := r1.uns i p (by rw [hF2]; exact List.mem_singleton.mpr rfl)
    have sp : Ex Hs1 (rm H1 [p]) := fun a o ha => by
      have ne : a ≠ p := fun e => by subst e; rw [pS] at ha; cases ha
      unfold rm
      rw [if_neg (fun m => ne (List.mem_singleton.mp m))]
      exact r1.exs a o ha
    have pa' : RpL cf.K true (rm H1 [p]) vs ds := pa.mono fun a o ha => by
      unfold rm at ha ⊢
      split at ha
      · cases ha
      · rename_i hw
        rw [if_neg (fun m => hw (r1.volw i hk a (by rw [hF2]; exact m)))]
        exact ha
    refine ⟨by rw [List.length_cons, pa.length]; exact hl, p, dx, v1, v2, t, w, vs, ds, rfl, c4, c5, c6, c7.mono sp, c8.mono sp, pa', ?_⟩
    split
    · rename_i d t' w' qf
      rw [qf] at hh
      intro v H' v1' v2' f1 f2 g1 g2 x pv
      obtain ⟨s2, r2⟩ := desk_after r1 hk hob (dskAt_some q1) hv hF2 c4 f1 f2 c7 c8 c9 g1 g2 x
      exact hh (by rw [f1, f2]; rfl) v H' s2 r2 pv
    · rename_i y t' w' qf
      rw [qf] at hh
      intro H' v1' v2' f1 f2 g1 g2 x
      obtain ⟨s2, r2⟩ := desk_after r1 hk hob (dskAt_some q1) hv hF2 c4 f1 f2 c7 c8 c9 g1 g2 x
      exact hh (by rw [f1, f2]; rfl) H' s2 r2
    · rename_i n1 n2
      split at hh
      · rename_i d t' w' qf; exact n1 _ _ _ qf
      · rename_i y t' w' qf; exact n2 _ _ _ qf
      · exact hh
  cases q : eCallD F i fa env with
  | stuck => trivial
  | ok d env' =>
    intro k
    unfold eCallD at q
    cases q0 : dskAt i env with
    | none => simp only [q0] at q; cases q
    | some tw0 =>
      obtain ⟨t0, w0⟩ := tw0
      simp only [q0] at q
      obtain ⟨p, hv, hF, p', dx0, x1, x2, t0', w0', b1, b2, b3, b4, b5⟩ := own_desk r hk hob (dskAt_some q0)
      cases b1; cases b2
      obtain ⟨ds, env1, q1, q3⟩ := bnd_ok q
      refine ⟨p, dx0, x1, x2, hv, b4, h.ok r q1 fun vs Hs1 H1 s1 r1 p1 => ?_⟩
      cases q2 : dskAt i env1 with
      | none => simp only [q2] at q3; cases q3
      | some tw =>
        obtain ⟨t, w⟩ := tw
        simp only [q2] at q3
        refine key hv r1 p1 q2 (hm _ _ _ q1) ?_
        split at q3
        · rename_i d' t' w' qf
          split at q3
          · cases q3
            exact fun _ v H' s2 r2 pv => k v _ H' (s1.trans s2) r2 (pv.mono (nw_rs s1.dom))
          · cases q3
        · split at q3 <;> cases q3
        · cases q3
  | ex y env' =>
    intro k
    unfold eCallD at q
    cases q0 : dskAt i env with
    | none => simp only [q0] at q; cases q
    | some tw0 =>
      obtain ⟨t0, w0⟩ := tw0
      simp only [q0] at q
      obtain ⟨p, hv, hF, p', dx0, x1, x2, t0', w0', b1, b2, b3, b4, b5⟩ := own_desk r hk hob (dskAt_some q0)
      cases b1; cases b2
      rcases bnd_ex q with q1 | ⟨ds, env1, q1, q3⟩
      · exact ⟨p, dx0, x1, x2, hv, b4, h.exn r q1 k⟩
      · refine ⟨p, dx0, x1, x2, hv, b4, h.ok r q1 fun vs Hs1 H1 s1 r1 p1 => ?_⟩
        cases q2 : dskAt i env1 with
        | none => simp only [q2] at q3; cases q3
        | some tw =>
          obtain ⟨t, w⟩ := tw
          simp only [q2] at q3
          refine key hv r1 p1 q2 (hm _ _ _ q1) ?_
          split at q3
          · split at q3 <;> cases q3
          · rename_i y' t' w' qf
            split at q3
            · cases q3
              exact fun _ H' s2 r2 => k _ H' (s1.trans s2) r2
            · cases q3
          · cases q3
theorem sd_callD {F : List D → FR} {m : Nat} {ta : TA} {fa : M (List D)} (hk : cf.kd i = .W) (hob : cf.ob = some C) (h : SdA cf W .B ta fa) (hm : ∀ ds env env', fa env = .ok ds env' → ds.length + 1 = m) : Sd cf W .V true (tCallS (spD cf.K cf.cv C m F) (WE W) (tCons (tVar i) ta)) (eCallD F i fa) := by
  refine Sd.mk (fun R Hs env σ H F0 wf r d env' q Q k => ?_) (fun R Hs env σ H F0 wf r x env' q Q k => ?_)
  · have z := desk_sp hk hob h hm (F := F) r Q
    rw [q] at z
    obtain ⟨p, dx, v1, v2, h1, _, h2⟩ := z fun v Hs' H' s r' pv => k v Hs' H' s r' pv fun _ _ => pv
    exact ⟨.ref p, h1, h2⟩
  · have z := desk_sp hk hob h hm (F := F) r Q
    rw [q] at z
    obtain ⟨p, dx, v1, v2, h1, _, h2⟩ := z k
    exact ⟨.ref p, h1, h2⟩
theorem se_callD {F : List D → FR} {m k : Nat} {f : Addr} {fd : FuncData} {ps : List Str} {x : Str} {e : Expr} {es : List Expr} {ta : TA} {fa : M (List D)} {p pos : Pos} (hK : cf.K = X.K) (tk : L2N.Takes X W) (G : FnOk X.prog X.w X.K X.mg X.base (L2N.CX X.prog X.w) k f fd ps (spD X.K cf.cv C m F)) (hr : Room k X.A) (hg : Gl X x) (hm : X.mg x = some (.ref f)) (hkp : PySem.W.keepIn X.K (.ref f) = true) (hb : Binds X.K fd ps []) (hk : cf.kd i = .W) (hob : cf.ob = some C) (pe : PE X e (tVar i)) (ha : SA X cf W .B es ta fa) (hl : ∀ ds env env', fa env = .ok ds env' → ds.length + 1 = m)
    (hdb : (x == ("__debug__" : Str)) = false := by decide) (he : starEach (e :: es) X.env = (false, eval e X.env) :: starEach es X.env := by rfl) (hpl : (backTo pos (starEach es X.env)).any (·.1) = false := by rfl) :
    SE X cf W .V true (.Call (.Name x p) (e :: es) [] pos) (tCallS (spD cf.K cf.cv C m F) (WE W) (tCons (tVar i) ta)) (eCallD F i fa) := by
  refine ⟨?_, sd_callD hk hob ha.s hl⟩
  rw [hK]
  exact pe_callS G hr hg hm hkp hb (fun σ => L2N.passAt tk σ) (pa_cons pe ha.p he) hdb he hpl
def tMethS (C : Addr) (m : Str) (sp : Sp) (E : L2.St → XK) (ta : TE) (t : TA) : TE := fun σ H Q => ta σ H fun x H1 => ∃ a dx fs, x = .ref a ∧ H1 a = some (.ins C dx fs) ∧ fs.lookup m = none ∧ t σ H1 fun vs H2 => sp (x :: vs) H2 Q (E σ)
theorem pe_methS {CX : CXT} {k : Nat} {f : Addr} {fd : FuncData} {ps : List Str} {sp : Sp} {E : L2.St → XK} {m : Str} {o e : Expr} {es : List Expr} {ta : TE} {t : TA} {apos pos : Pos} {pl : Sem Bool} (he : PE X o ta) (c : L2.Cls X.K C) (hm : Meth X.K C m f) (F : FnOk X.prog X.w X.K X.mg X.base CX k f fd ps sp) (hr : Room k X.A) (hb : Binds X.K fd ps []) (hx : ∀ σ, PassesAt CX X σ (E σ)) (ha : PA X (e :: es) t)
    (hst : starEach (e :: es) X.env = (false, eval e X.env) :: starEach es X.env := by rfl) (hpl : (backTo pos (starEach es X.env)).any (·.1) = false := by rfl)
    (ht : eval (.Call (.Attribute o m apos) (e :: es) [] pos) X.env = (do
      let ov ← eval o X.env
      standAt apos.atName
      let (f, first) ← holding [ov] (getMethod ov m pl)
      callWith pos f first (backTo pos (starEach (e :: es) X.env)) (backToKw pos (keywordEach [] X.env))) := by rfl) :
    PE X (.Call (.Attribute o m apos) (e :: es) [] pos) (tMethS C m sp E ta t) := by
  refine ⟨fun pins s σ H Q I h => ?_⟩
  refine PySem.W.methodCall_KW (pl := pl) (thn (he.run pins s σ H _ I h) fun u s1 ⟨x, H1, I1, rx, a, dx, fs, ex, ea, l, q⟩ => ?_) ht
  subst ex
  obtain rfl : u = Value.ref a := rx
  refine getmeth_ok I1 ea c hm l ?_
  refine PySem.W.callWith_K (first := [.ref a]) (h₀ := X.base) I.ok.mod.kin hm.kp (thn (ha.run pos pins s1 σ H1 _ I1 q) fun us s2 ⟨vs, H2, I2, r, q2⟩ => ⟨I2.kIn, ?_⟩) hst hpl
  exact run_fnS (us := .ref a :: us) (vs := .ref a :: vs) F hr hb (hx σ) I2 (.cons rfl r) q2
theorem se_methD {F : List D → FR} {m k : Nat} {f : Addr} {fd : FuncData} {ps : List Str} {x : Str} {o e : Expr} {es : List Expr} {ta : TA} {fa : M (List D)} {apos pos : Pos} {pl : Sem Bool} (hK : cf.K = X.K) (tk : L2N.Takes X W) (c : L2.Cls X.K C) (hme : Meth X.K C x f) (G : FnOk X.prog X.w X.K X.mg X.base (L2N.CX X.prog X.w) k f fd ps (spD X.K cf.cv C m F)) (hr : Room k X.A) (hb : Binds X.K fd ps []) (hk : cf.kd i = .W) (hob : cf.ob = some C) (pe : PE X o (tVar i)) (ha : SA X cf W .B (e :: es) ta fa) (hl : ∀ ds env env', fa env = .ok ds env' → ds.length + 1 = m) (hno : ∀ v1 v2, (dkF v1 v2).lookup x = none)
    (hst : starEach (e :: es) X.env = (false, eval e X.env) :: starEach es X.env := by rfl) (hpl : (backTo pos (starEach es X.env)).any (·.1) = false := by rfl)
    (ht : eval (.Call (.Attribute o x apos) (e :: es) [] pos) X.env = (do
      let ov ← eval o X.env
      standAt apos.atName
      let (f, first) ← holding [ov] (getMethod ov x pl)
      callWith pos f first (backTo pos (starEach (e :: es) X.env)) (backToKw pos (keywordEach [] X.env))) := by rfl) :
    SE X cf W .V true (.Call (.Attribute o x apos) (e :: es) [] pos) (tMethS C x (spD cf.K cf.cv C m F) (WE W) (tVar i) ta) (eCallD F i fa) := by
  refine ⟨?_, Sd.mk (fun R Hs env σ H F0 wf r d env' q Q k => ?_) (fun R Hs env σ H F0 wf r y env' q Q k => ?_)⟩
  · rw [hK]
    exact pe_methS pe c hme G hr hb (fun σ => L2N.passAt tk σ) ha.p hst hpl ht
  · have z := desk_sp hk hob ha.s hl (F := F) r Q
    rw [q] at z
    obtain ⟨p, dx, v1, v2, h1, h3, h2⟩ := z fun v Hs' H' s r' pv => k v Hs' H' s r' pv fun _ _ => pv
    exact ⟨.ref p, h1, p, dx, _, rfl, h3, hno _ _, h2⟩
  · have z := desk_sp hk hob ha.s hl (F := F) r Q
    rw [q] at z
    obtain ⟨p, dx, v1, v2, h1, h3, h2⟩ := z k
    exact ⟨.ref p, h1, p, dx, _, rfl, h3, hno _ _, h2⟩
abbrev fName (k : Bool) : Str := if k then Str.ofString "word" else Str.ofString "text"
theorem fl_ne : ¬ (Str.ofString "text" : Str) = Str.ofString "word" := by decide +kernel
theorem dkF_get (v1 v2 : V) (k : Bool) : (dkF v1 v2).lookup (fName k) = some (if k then v2 else v1) := by
  cases k with
  | false => show ([(Str.ofString "text", v1), (Str.ofString "word", v2)] : List (Str × V)).lookup (Str.ofString "text") = _; rw [List.lookup_cons, show (Str.ofString "text" == Str.ofString "text") = true from by decide +kernel]; rfl
  | true => show ([(Str.ofString "text", v1), (Str.ofString "word", v2)] : List (Str × V)).lookup (Str.ofString "word") = _; rw [List.lookup_cons, show (Str.ofString "word" == Str.ofString "text") = false from by decide +kernel, List.lookup_cons, show (Str.ofString "word" == Str.ofString "word") = true from by decide +kernel]; rfl
theorem dkF_put (v1 v2 y : V) (k : Bool) : putF (fName k) y (dkF v1 v2) = if k then dkF v1 y else dkF y v2 := by
  cases k with
  | false =>
    show (if Str.ofString "text" = Str.ofString "text" then _ else _) = dkF y v2
    rw [if_pos rfl]
  | true =>
    show (if Str.ofString "text" = Str.ofString "word" then _ else (Str.ofString "text", v1) :: (if Str.ofString "word" = Str.ofString "word" then _ else _)) = dkF v1 y
    rw [if_neg fl_ne, if_pos rfl]
theorem dkF_no {x : Str} (h1 : (x == Str.ofString "text") = false) (h2 : (x == Str.ofString "word") = false) (v1 v2 : V) : (dkF v1 v2).lookup x = none := by
  show ([(Str.ofString "text", v1), (Str.ofString "word", v2)] : List (Str × V)).lookup x = none
  rw [List.lookup_cons, h1, List.lookup_cons, h2]; rfl
def obD (mg : Str → Option Value) : Option Addr := match mg (Str.ofString "Desk") with
  | some (.ref C) => some C
  | _ => none
theorem obD_of {mg : Str → Option Value} {C : Addr} (h : mg (Str.ofString "Desk") = some (.ref C)) : obD mg = some C := by unfold obD; rw [h]
theorem init_run {K : PySem.W.Frag} {C p dx : Addr} {H : Hp} {Q : VK} {D : Ends} {σ : L2.St} (hp : H p = some (.ins C dx [])) (cl : L2.Cls K C) (nt : NoAttr K C (fName false)) (nw : NoAttr K C (fName true)) (k : Q .non (upd H p (.ins C dx (dkF .non .non)))) (hσ : σ[0]? = some (some (.ref p)) := by rfl) (hD : ∀ σ' H', D.nx σ' H' = Q .non H' := by intros; rfl) :
    tSeq (sFld K (tVar 0) (tC .non) (fName false)) (sFld K (tVar 0) (tC .non) (fName true)) D σ H := by
  refine ⟨.ref p, hσ, p, C, dx, [], rfl, hp, cl, nt, by show 0 < 1000; decide, .ref p, hσ, p, C, dx, _, rfl, upd_same, cl, nw, by show 1 < 1000; decide, ?_⟩
  rw [hD]
  have e : upd (upd H p (.ins C dx (putF (fName false) .non []))) p (.ins C dx (putF (fName true) .non (putF (fName false) .non []))) = upd H p (.ins C dx (dkF .non .non)) := by
    have e1 : putF (fName true) V.non (putF (fName false) .non []) = dkF .non .non := by
      show (if Str.ofString "text" = Str.ofString "word" then _ else (Str.ofString "text", V.non) :: [(Str.ofString "word", V.non)]) = _
      rw [if_neg fl_ne]
    rw [e1]
    funext b
    by_cases e : b = p
    · subst e; rw [upd_same, upd_same]
    · rw [upd_ne e, upd_ne e, upd_ne e]
  rw [e]
  exact k
theorem se_fld {o : Expr} {pos : Pos} (k : Bool) (hK : cf.K = X.K) (po : PE X o (tVar i)) (hk : cf.kd i = .W) (hob : cf.ob = some C) (cl : L2.Cls X.K C) (no : NoAttr X.K C (fName k)) (hb : attributeBase o (fName k) X.env (eval o X.env) = eval o X.env := by rfl) : SE X cf W .S false (.Attribute o (fName k) pos) (tFld cf.K (tVar i) (fName k)) (eFld i k) := by
  rw [hK]
  refine ⟨pe_fld po hb, Sd.mk (fun R Hs env σ H F wf r d env' q Q kk => ?_) (fun R Hs env σ H F wf r x env' q Q kk => ?_)⟩
  · unfold eFld at q
    cases q0 : dskAt i env with
    | none => simp only [q0] at q; cases q
    | some tw =>
      obtain ⟨t, w⟩ := tw
      simp only [q0] at q
      cases q
      obtain ⟨p, hv, hF, p', dx, v1, v2, t', w', b1, b2, b3, b4, b5, b6, b7, b8, b9⟩ := own_desk r hk hob (dskAt_some q0)
      cases b1; cases b2
      refine ⟨.ref p, hv, p, C, dx, _, _, rfl, b4, cl, no, dkF_get v1 v2 k, kk _ Hs H Stp.refl r ?_ fun z => by cases z⟩
      cases k with
      | false => exact b7
      | true => exact b8
  · unfold eFld at q
    split at q <;> cases q
theorem ss_fld {o value : Expr} {pos pos' : Pos} {tv : TE} {f : M D} (k : Bool) (hK : cf.K = X.K) (po : PE X o (tVar i)) (hk : cf.kd i = .W) (hob : cf.ob = some C) (cl : L2.Cls X.K C) (no : NoAttr X.K C (fName k)) (h : SE X cf W .N n value tv f) (hs : swapsWith value (some (.Attribute o (fName k) pos')) pos.line X.env = pure false := by rfl) :
    SS X cf W (.Assign [.Attribute o (fName k) pos'] value pos) (sFldS i k f) := by
  refine ⟨_, ps_fld po h.p hs, fun R Hs env σ H F wf r D hp => ?_⟩
  refine h.s.bind r hp fun d env1 v Hs1 H1 s1 r1 p1 _ hp => ?_
  cases q0 : dskAt i env1 with
  | none => simp only [q0] at hp; exact hp.elim
  | some tw =>
    obtain ⟨t, w⟩ := tw
    simp only [q0] at hp
    split at hp
    · rename_i hfl
      obtain ⟨p, hv, hF, p', dx, v1, v2, t', w', b1, b2, b3, b4, b5, b6, b7, b8, b9⟩ := own_desk r1 hk hob (dskAt_some q0)
      cases b1; cases b2
      refine ⟨.ref p, hv, p, C, dx, _, rfl, b4, cl, no, by show 2 < 1000; decide, ?_⟩
      rw [dkF_put]
      have hpm : p ∈ F i := by rw [hF]; exact List.mem_singleton.mpr rfl
      have p1 : Rp cf.K true (rs Hs1 R.H0) v d := p1
      refine hp Hs1 σ _ F wf s1.ex (r1.mut (i := i) (p := p) (v := .ref p) (d0 := .tup [t, w]) hpm (dskAt_some q0) hv ?_)
      rw [hk, hob, hF]
      cases k with
      | false =>
        refine .inr ⟨C, rfl, p, dx, v, v2, d, w, rfl, rfl, rfl, upd_same, hfl, b6, p1.mono (rs_sub _ _), b8, fun z => ?_⟩
        obtain ⟨u1, u2, a1, a2, a3⟩ := b9 z
        exact ⟨u1, u2, a1, .inr p1, a3⟩
      | true =>
        refine .inr ⟨C, rfl, p, dx, v1, v, t, d, rfl, rfl, rfl, upd_same, b5, hfl, b7, p1.mono (rs_sub _ _), fun z => ?_⟩
        obtain ⟨u1, u2, a1, a2, a3⟩ := b9 z
        exact ⟨u1, u2, a1, a2, .inr p1⟩
    · exact hp.elim
theorem ss_mkD {x y : Str} {f : Addr} {fd : FuncData} {ps : List Str} {k : Nat} {p2 cpos pos' pos : Pos} (hk : cf.kd i = .W) (h0 : i ≠ 0) (hob : cf.ob = some C) (Mc : Mk X.K C f) (G : FnOk X.prog X.w X.K X.mg X.base CX0 k f fd ps (spI C)) (hr : Room (k + 1) X.A) (hg : Gl X y) (hm : X.mg y = some (.ref C)) (hb : Binds X.K fd ps []) (hN : X.N.Nodup) (hi : X.N[i]? = some x) (hx : Loc X.env.scope x)
    (hdb : (y == ("__debug__" : Str)) = false := by decide) (hs : swapsWith (.Call (.Name y p2) [] [] cpos) (some (.Name x pos')) pos.line X.env = pure false := by rfl) (hf : X.fn x = true ∨ X.env.scope.names.lookup x = some .local := by first | exact .inl rfl | exact .inr rfl | assumption) :
    SS X cf W (.Assign [.Name x pos'] (.Call (.Name y p2) [] [] cpos) pos) (sMkD i) := by
  refine ⟨_, ps_set hN hi hx (pe_make0 (E := fun _ _ _ => False) Mc G hr hg hm hb .nil pass0 hdb) hs hf, fun R Hs env σ H F wf r D hp => ?_⟩
  show ∀ a dx, H a = none → H dx = none → dx ≠ a → spI C [.ref a] (upd (upd H dx (.own a)) a (.ins C dx [])) (fun v H2 => v = .non ∧ gName i (.ref a) σ H2 D.nx) fun _ _ _ => False
  intro a dx ha hdx ne
  refine ⟨a, dx, rfl, upd_same, rfl, ?_⟩
  have eh : upd (upd (upd H dx (.own a)) a (.ins C dx [])) a (.ins C dx (dkF .non .non)) = upd (upd H dx (.own a)) a (.ins C dx (dkF .non .non)) := by
    funext b
    by_cases e : b = a
    · subst e; rw [upd_same, upd_same]
    · rw [upd_ne e, upd_ne e, upd_ne e]
  rw [eh]
  have x0 : Ex H (upd (upd H dx (.own a)) a (.ins C dx (dkF .non .non))) := fun b o h => by
    have n1 : b ≠ a := fun e => by subst e; rw [ha] at h; cases h
    have n2 : b ≠ dx := fun e => by subst e; rw [hdx] at h; cases h
    rw [upd_ne n1, upd_ne n2]; exact h
  obtain ⟨r2, e2⟩ := r.own (Stp.grow r.exs x0) (r.grow x0) (i := i) (v := .ref a) (d := .tup [.non, .non]) (Fn := [a]) (wf' := a :: wf) (fun _ => h0) (by simp)
    (fun b m => by
      rw [List.mem_singleton.mp m]
      exact ⟨ha, by rw [upd_same]; exact fun z => by cases z⟩)
    (fun b => by
      rw [List.mem_cons, List.mem_singleton]
      exact ⟨fun z => z.elim (fun z => .inr ⟨hk, z⟩) .inl, fun z => z.elim .inr fun z => .inl z.2⟩)
    (by
      rw [hk, hob]
      refine .inr ⟨C, rfl, a, dx, .non, .non, .non, .non, rfl, rfl, rfl, upd_same, rfl, rfl, .non, .non, fun z => ?_⟩
      have h1 := (r.ior a z).2.1
      exact absurd ha (r.fdom 0 a (by rw [h1]; exact List.mem_singleton.mpr rfl)))
    (.inr ⟨rfl, fun b m => by
      have hb := (r.wdom b m).1
      rw [upd_ne (fun e => by subst e; exact hb ha), upd_ne (fun e => by subst e; exact hb hdx)]⟩)
  exact hp _ _ _ _ _ e2 r2
end
section
variable {P : Program} {w : World} {K : PySem.W.Frag} {mg : Str → Option Value} {base : Heap}
theorem fn_D {C : Addr} {x qual : Str} {st : Stmt} {f : Addr} {fd : FuncData} (N ps : List Str) (mN mP : Nat) {k : Nat} (cf : Cf) (g : M Fl) (hN : N.length = mN) (hP : ps.length = mP) (F : Fun K x qual st f fd) (S : FnScope N ps (defScope st)) (hK : cf.K = K) (h0 : cf.kd 0 = .W) (hk : ∀ i, 0 < i → i < ps.length → cf.kd i = .S) (hob : cf.ob = some C)
    (hbody : ∀ (cdv : Value) (A : Around) (outer : List Env) (s : Shared) (H : Hp) (E : XK), Room k (A.deeper (envOfC qual (defScope st) s.heap.objs.size f cdv)) → L2N.Takes (cxOf (L2N.CX P w) P w K mg base N qual (defScope st) f cdv A outer s H E) (fun cls d _ H => E cls d H) →
      PassesOwn (model P w) (A.deeper (envOfC qual (defScope st) s.heap.objs.size f cdv)) (envOfC qual (defScope st) s.heap.objs.size f cdv) (cxOf (L2N.CX P w) P w K mg base N qual (defScope st) f cdv A outer s H E).xe →
      SSs (cxOf (L2N.CX P w) P w K mg base N qual (defScope st) f cdv A outer s H E) cf (fun cls d _ H => E cls d H) (defBody st) g) :
    FnOk P w K mg base (L2N.CX P w) (k + 1) f fd ps (spD K cf.cv C mP (runF mN g)) := by
  subst hN hP
  refine okN F S (fun vs H Q E h => h.1) (fun cdv A outer s H vs Q E hr h => ?_)
  obtain ⟨hl, p, dx, v1, v2, t0, w0, vs', ds, rfl, hp, ft, fw, rt, rw0, hd, h⟩ := h
  obtain ⟨t, pt, sd⟩ := hbody cdv A outer s H E hr (L2N.takes_of rfl rfl rfl rfl) (passes_of rfl)
  refine ⟨t, pt, ?_⟩
  have hpm : p ∈ [p] := List.mem_singleton.mpr rfl
  have r : Rel cf ⟨H, some p⟩ (rm H [p]) (envOf N.length (.tup [t0, w0] :: ds)) (L2.start N (.ref p :: vs')) H (fun i => if i = 0 then [p] else []) [p] :=
    { len := env_len (by rw [List.length_cons, List.length_cons, hd.length])
      exs := rm_sub _ _
      ex0 := fun a o h n => by
        unfold rm
        rw [if_neg (fun m => n (by rw [List.mem_singleton.mp m]))]
        exact h
      dom0 := fun a h => h
      slot := fun i d q => by
        have q := envOf_get q
        cases i with
        | zero =>
          have q : D.tup [t0, w0] = d := by simpa using q
          subst q
          refine ⟨.ref p, start_get rfl, ?_⟩
          rw [h0, hob]
          exact .inr ⟨C, rfl, p, dx, v1, v2, t0, w0, rfl, rfl, rfl, hp, ft, fw, by rw [hK]; exact rt, by rw [hK]; exact rw0, fun _ => ⟨v1, v2, hp, .inl rfl, .inl rfl⟩⟩
        | succ i =>
          have q : ds[i]? = some d := by simpa using q
          obtain ⟨v, h1, h2⟩ := hd.get q
          refine ⟨v, start_get (by simpa using h1), ?_⟩
          rw [hk (i + 1) (Nat.succ_pos i) (by rw [← hl, List.length_cons, hd.length]; exact Nat.succ_lt_succ (List.getElem?_eq_some_iff.mp q).1), hK]
          exact h2
      nod := fun i => by
        show (if i = 0 then [p] else []).Nodup
        split <;> simp
      dis := fun i j ne a m => by
        by_cases e : i = 0
        · rw [if_neg (fun z => ne (by rw [e, z]))]; exact fun z => by cases z
        · rw [if_neg e] at m; cases m
      fdom := fun i a m => by
        by_cases e : i = 0
        · rw [if_pos e] at m; rw [List.mem_singleton.mp m, hp]; exact fun z => by cases z
        · rw [if_neg e] at m; cases m
      uns := fun i a m => by
        by_cases e : i = 0
        · rw [if_pos e] at m; unfold rm; rw [if_pos m]
        · rw [if_neg e] at m; cases m
      new := fun i a m => by
        by_cases e : i = 0
        · rw [if_pos e] at m; exact .inl (by rw [List.mem_singleton.mp m])
        · rw [if_neg e] at m; cases m
      volw := fun i _ a m => by
        by_cases e : i = 0
        · rw [if_pos e] at m; exact m
        · rw [if_neg e] at m; cases m
      volb := fun i hw a m => by
        by_cases e : i = 0
        · subst e; exact absurd h0 hw
        · rw [if_neg e] at m; cases m
      wdom := fun a m => ⟨by rw [List.mem_singleton.mp m, hp]; exact (fun z => by cases z), by unfold rm; rw [if_pos m]⟩
      ior := fun q e => by
        cases e
        exact ⟨start_get rfl, if_pos rfl, h0, .tup [t0, w0], by
          unfold envOf
          rfl⟩ }
  refine sd _ _ _ _ _ _ _ r _ ?_
  have aft : ∀ {Hs' H' : Hp} {env' : PEnv} {σ' : L2.St} {F' : Nat → List Addr} {wf' : List Addr}, Rel cf ⟨H, some p⟩ Hs' env' σ' H' F' wf' → (∃ t' w', ioOf env' = .tup [t', w']) → ∃ v1' v2' t' w', ioOf env' = .tup [t', w'] ∧ t'.flat = true ∧ w'.flat = true ∧ FldN K H H' v1 t0 v1' t' ∧ FldN K H H' v2 w0 v2' w' ∧ Ex (upd H p (.ins C dx (dkF v1' v2'))) H' := fun {Hs' H' env' σ' F' wf'} r' hio => by
    obtain ⟨g1, g2, g3, d, g4⟩ := r'.ior p rfl
    obtain ⟨tz, wz, hio⟩ := hio
    rw [ioOf_get g4] at hio
    subst hio
    obtain ⟨p2, a1, a2, p3, dx', y1, y2, t', w', b1, b2, b3, b4, b5, b6, b7, b8, b9⟩ := own_desk r' h0 hob g4
    rw [g1] at a1; cases a1
    cases b1; cases b2
    obtain ⟨u1, u2, c1, c2, c3⟩ := b9 rfl
    have c1 : H p = some (.ins C dx' (dkF u1 u2)) := c1
    rw [hp] at c1
    injection c1 with c1
    injection c1 with _ c1 c4
    subst c1
    have e1 : v1 = u1 := by injection c4 with c4 _; injection c4
    have e2 : v2 = u2 := by injection c4 with _ c4; injection c4 with c4 _; injection c4
    subst e1 e2
    have exH : Ex (rm H [p]) Hs' := fun a o ha => r'.ex0 a o (rm_sub _ _ _ _ ha) (fun z => by
      cases z
      unfold rm at ha
      rw [if_pos hpm] at ha
      cases ha)
    have fld : ∀ {v v' : V} {t t' : D}, t.flat = true → t'.flat = true → Rp K true (rm H [p]) v t → Rp cf.K true Hs' v' t' → (v' = v ∨ Rp cf.K true (rs Hs' H) v' t') → FldN K H H' v t v' t' := fun {v v' t t'} f f' h1 h2 h3 => by
      rcases h3 with rfl | h3
      · rw [hK] at h2
        exact .inl ⟨rfl, flat_uniq r'.exs (exH.trans r'.exs) h2 h1 f' f⟩
      · refine .inr ?_
        rw [← hK]
        exact h3.mono fun a o ha => by
          cases z : H a with
          | some u => rw [rs_some z] at ha; cases ha
          | none => rw [rs_none z] at ha; rw [nw_none z]; exact r'.exs a o ha
    refine ⟨y1, y2, tz, wz, ioOf_get g4, b5, b6, fld ft b5 rt b7 c2, fld fw b6 rw0 b8 c3, fun a o ha => ?_⟩
    by_cases e : a = p
    · subst e; rw [upd_same] at ha; cases ha; exact b4
    · rw [upd_ne e] at ha
      exact r'.exs a o (r'.ex0 a o ha (fun z => by cases z; exact e rfl))
  cases q : g (envOf N.length (.tup [t0, w0] :: ds)) with
  | stuck => rw [show runF N.length g (.tup [t0, w0] :: ds) = .stuck by simp only [runF, q]] at h; exact h.elim
  | ex c e =>
    rw [show runF N.length g (.tup [t0, w0] :: ds) = .ex c (ioOf e) by simp only [runF, q]] at h
    obtain ⟨t9, w9, hio⟩ : ∃ t w, ioOf e = .tup [t, w] := tup2_of (by
      split at h
      · rename_i z; cases z
      · rename_i z; injection z with _ z; rw [z]; trivial
      · exact h.elim)
    rw [hio] at h
    intro Hs' σ' H' F' wf' _ r'
    obtain ⟨v1', v2', t', w', a1, a2, a3, a4, a5, a6⟩ := aft r' ⟨t9, w9, hio⟩
    rw [hio] at a1; cases a1
    exact h H' v1' v2' a2 a3 a4 a5 a6
  | ok fl e =>
    cases fl with
    | nx =>
      rw [show runF N.length g (.tup [t0, w0] :: ds) = .ok .non (ioOf e) by simp only [runF, q]] at h
      obtain ⟨t9, w9, hio⟩ : ∃ t w, ioOf e = .tup [t, w] := tup2_of (by
        split at h
        · rename_i z; injection z with _ z; rw [z]; trivial
        · rename_i z; cases z
        · exact h.elim)
      simp only [hio] at h
      intro Hs' σ' H' F' wf' _ r'
      obtain ⟨v1', v2', t', w', a1, a2, a3, a4, a5, a6⟩ := aft r' ⟨t9, w9, hio⟩
      rw [hio] at a1; cases a1
      exact h .non H' v1' v2' a2 a3 a4 a5 a6 .non
    | rt d =>
      rw [show runF N.length g (.tup [t0, w0] :: ds) = .ok d (ioOf e) by simp only [runF, q]] at h
      obtain ⟨t9, w9, hio⟩ : ∃ t w, ioOf e = .tup [t, w] := tup2_of (by
        split at h
        · rename_i z; injection z with _ z; rw [z]; trivial
        · rename_i z; cases z
        · exact h.elim)
      simp only [hio] at h
      intro v Hs' σ' H' F' wf' _ r' pv
      obtain ⟨v1', v2', t', w', a1, a2, a3, a4, a5, a6⟩ := aft r' ⟨t9, w9, hio⟩
      rw [hio] at a1; cases a1
      refine h v H' v1' v2' a2 a3 a4 a5 a6 ?_
      rw [← hK]
      exact pv.mono fun a o ha => by
        have ha : rs (rm H' wf') H a = some o := ha
        cases z : H a with
        | none => rw [rs_none z] at ha; rw [nw_none z]; exact rm_sub _ _ a o ha
        | some u => rw [rs_some z] at ha; cases ha
    | bk => rw [show runF N.length g (.tup [t0, w0] :: ds) = .stuck by simp only [runF, q]] at h; exact h.elim
    | ct => rw [show runF N.length g (.tup [t0, w0] :: ds) = .stuck by simp only [runF, q]] at h; exact h.elim
end
end MV
namespace MV
open PySem PySem.Spec PyProof.Rows L2
def joinOk (a : Str) (ys : List Str) : Bool := decide ((ys.map (·.length)).sum + ys.length * a.length ≤ LIM)
def gJoin : D → List D → Option D
  | .str a, [.lst ds] => match asStrs ds with
    | some ys => if joinOk a ys then some (.str (Txt.join a ys)) else none
    | none => none
  | _, _ => none
def rJoinS (K : PySem.W.Frag) : V → List V → Hp → VK → Prop := fun x xs H Q => ∃ a p, ∃ ys : List Str, x = .str a ∧ xs = [.ref p] ∧ (SqL K H p (ys.map V.str) ∨ SqT K H p (ys.map V.str)) ∧ (ys.map (·.length)).sum + ys.length * a.length ≤ 16777216 ∧ Q (.str (Txt.join a ys)) H
theorem snd_join {K : PySem.W.Frag} : SndM K true "str" (rJoinS K) gJoin := fun G H x xs d1 ds d e h1 h2 q Q k => by
  unfold gJoin at q
  split at q
  · rename_i a ds
    split at q
    · rename_i ys ha
      split at q
      · rename_i hl
        cases q
        obtain ⟨v, rfl, hv⟩ := h2.one
        obtain ⟨p, xs, rfl, s1, r1⟩ := hv.lst_inv
        rw [h1.str_inv]
        refine ⟨a, p, ys, rfl, rfl, .inl (.inl (.inl ?_)), Nat.le_trans (of_decide_eq_true hl) (by decide), k_sc k rfl⟩
        rw [← asStrs_rp r1 ha]
        exact e _ _ s1
      · cases q
    · cases q
  · cases q
theorem sc_join : ∀ x xs d, gJoin x xs = some d → d.sc = true := fun x xs d q => by
  unfold gJoin at q
  split at q
  · split at q
    · split at q
      · cases q; rfl
      · cases q
    · cases q
  · cases q
section
variable {X : Cx} {cf : Cf} {W : WX} {c : Cls} {n n1 n2 : Bool}
theorem se_join {o e : Expr} {es : List Expr} {to : TE} {tA : TA} {fo : M D} {fA : M (List D)} {apos cpos : Pos} (hK : cf.K = X.K) (ho : SE X cf W c n1 o to fo) (ha : SA X cf W c (e :: es) tA fA)
    (hbase : attributeBase o "join" X.env (eval o X.env) = eval o X.env := by rfl)
    (hfew : ((backTo cpos (starEach (e :: es) X.env)).all (fun x => !x.1) && (backToKw cpos (keywordEach [] X.env)).all (fun x => x.1.isSome)
      && decide ((e :: es).length + ([] : List Keyword).length + (if ([] : List Keyword).isEmpty then 0 else 1) < 30)) = true := by rfl)
    (hline : (apos.endLine == cpos.line) = true := by rfl) (hs : starEach (e :: es) X.env = (false, eval e X.env) :: starEach es X.env := by rfl) (hplain : (backTo cpos (starEach es X.env)).any (·.1) = false := by rfl) :
    SE X cf W .V true (.Call (.Attribute o "join" apos) (e :: es) [] cpos) (tBM cf.K "str" (rJoinS cf.K) to tA) (eM "str" gJoin fo fA) :=
  SE.low (c := c) (n := true) ⟨hK ▸ pe_bm PySem.F.plainAttrs_str PySem.F.slot_str_join PySem.F.type_str_join mt_join ho.p ha.p hbase hfew hline hs hplain, sd_bm (.inr rfl) snd_join ho.s ha.s⟩ (scM sc_join)
end
def gStrI : List D → Option D
  | [.int i] => if i.natAbs.log2 < 1920 then some (.str (toString i)) else none
  | _ => none
def rStrI : List V → Hp → VK → Prop := fun xs H Q => ∃ i, xs = [.int i] ∧ i.natAbs.log2 < 1920 ∧ Q (.str (toString i)) H
theorem snd_strI {K : PySem.W.Frag} : SndN K true rStrI gStrI := fun G H xs ds d e h q Q k => by
  unfold gStrI at q
  split at q
  · split at q
    · rename_i hl
      cases q
      obtain ⟨v, rfl, hv⟩ := h.one
      exact ⟨_, by rw [hv.int_inv], hl, k_sc k rfl⟩
    · cases q
  · cases q
theorem sc_strI : ∀ x d, gStrI x = some d → d.sc = true := fun x d q => by
  unfold gStrI at q
  split at q
  · split at q
    · cases q; rfl
    · cases q
  · cases q
def gIntT : List D → Option D
  | [.str a] => if a.length ≤ 640 then (PySem.intText? a).map .int else none
  | _ => none
def rIntT : List V → Hp → VK → Prop := fun xs H Q => ∃ a n, xs = [.str a] ∧ PySem.intText? a = some n ∧ a.length ≤ 640 ∧ Q (.int n) H
theorem snd_intT {K : PySem.W.Frag} : SndN K true rIntT gIntT := fun G H xs ds d e h q Q k => by
  unfold gIntT at q
  split at q
  · split at q
    · rename_i hl
      obtain ⟨m, qm, rfl⟩ := Option.map_eq_some_iff.mp q
      obtain ⟨v, rfl, hv⟩ := h.one
      exact ⟨_, m, by rw [hv.str_inv], qm, hl, k_sc k rfl⟩
    · cases q
  · cases q
theorem sc_intT : ∀ x d, gIntT x = some d → d.sc = true := fun x d q => by
  unfold gIntT at q
  split at q
  · split at q
    · obtain ⟨m, _, rfl⟩ := Option.map_eq_some_iff.mp q; rfl
    · cases q
  · cases q
section
variable {X : Cx} {cf : Cf} {W : WX} {c : Cls} {e : Expr} {es : List Expr} {tA : TA} {fA : M (List D)} {p pos : Pos}
theorem se_strI (hm : X.mg "str" = none) (ha : SA X cf W c (e :: es) tA fA) (hg : Gl X "str" := by rfl) (he : starEach (e :: es) X.env = (false, eval e X.env) :: starEach es X.env := by rfl) (hpl : (backTo pos (starEach es X.env)).any (·.1) = false := by rfl) :
    SE X cf W .V true (.Call (.Name "str" p) (e :: es) [] pos) (tCB rStrI tA) (eN gStrI fA) := (se_ct call_str_int (n := true) snd_strI hg hm (by decide +kernel) ha (by decide) (by decide) he hpl).low (scN sc_strI)
theorem se_intT (hm : X.mg "int" = none) (ha : SA X cf W c (e :: es) tA fA) (hg : Gl X "int" := by rfl) (he : starEach (e :: es) X.env = (false, eval e X.env) :: starEach es X.env := by rfl) (hpl : (backTo pos (starEach es X.env)).any (·.1) = false := by rfl) :
    SE X cf W .V true (.Call (.Name "int" p) (e :: es) [] pos) (tCB rIntT tA) (eN gIntT fA) := (se_ct call_int_str (n := true) snd_intT hg hm (by decide +kernel) ha (by decide) (by decide) he hpl).low (scN sc_intT)
end
theorem pe_callS0 {X : Cx} {CX : CXT} {k : Nat} {f : Addr} {fd : FuncData} {ps : List Str} {sp : Sp} {E : L2.St → XK} {x : Str} {p pos : Pos} (F : FnOk X.prog X.w X.K X.mg X.base CX k f fd ps sp) (hr : Room k X.A) (hg : Gl X x) (hm : X.mg x = some (.ref f)) (hk : PySem.W.keepIn X.K (.ref f) = true) (hb : Binds X.K fd ps []) (hx : ∀ σ, PassesAt CX X σ (E σ))
    (hdb : (x == ("__debug__" : Str)) = false := by decide) : PE X (.Call (.Name x p) [] [] pos) (tCallS sp E tNil) := by
  refine ⟨fun pins s σ H Q I h => ?_⟩
  refine wpAny_Call_Name_kw (ld_glob I hg hm ?_ hdb)
  exact PySem.W.callWith_K0 I.kIn hk (run_fnS (us := []) F hr hb (hx σ) I .nil h)
theorem se_call0 {X : Cx} {cf : Cf} {W : WX} {F : List D → FR} {k : Nat} {f : Addr} {fd : FuncData} {ps : List Str} {x : Str} {p pos : Pos} (hK : cf.K = X.K) (tk : L2N.Takes X W) (G : FnOk X.prog X.w X.K X.mg X.base (L2N.CX X.prog X.w) k f fd ps (spP X.K cf.cv 0 F)) (hr : Room k X.A) (hg : Gl X x) (hm : X.mg x = some (.ref f)) (hkp : PySem.W.keepIn X.K (.ref f) = true) (hb : Binds X.K fd ps [])
    (hdb : (x == ("__debug__" : Str)) = false := by decide) :
    SE X cf W .V true (.Call (.Name x p) [] [] pos) (tCallS (spP cf.K cf.cv 0 F) (WE W) tNil) (eCall F aNil) := by
  refine ⟨?_, sd_call sda_nil fun _ _ _ q => aLen_nil q⟩
  rw [hK]
  exact pe_callS0 G hr hg hm hkp hb (fun σ => L2N.passAt tk σ) hdb
section
variable {X : Cx} {cf : Cf} {W : WX}
theorem se_dict1 {x y : Str} {j1 j2 : Nat} {p1 p2 pos : Pos} : SE X cf W .V true (.Dict [some (.Constant (.str x) j1 p1)] [.Constant (.str y) j2 p2] pos) (tDisp [(tC (.str x), tC (.str y))]) (eC (.dic [(.inr x, .str y)])) := by
  refine ⟨pe_disp (pps_cons pe_str pe_str pps_nil) rfl rfl (by simp) (by simp), Sd.mk (fun R Hs env σ H F wf r d env' q Q k => ?_) (fun _ _ _ _ _ _ _ _ _ _ q => by cases q)⟩
  cases q
  show ∀ p, H p = none → _
  intro p hp
  have h2 : upd (upd H p (.dK [])) p (.dK [((.inr x : Key), V.str y)]) = upd H p (.dK [((.inr x : Key), V.str y)]) := by
    funext b
    by_cases e : b = p
    · subst e; rw [upd_same, upd_same]
    · rw [upd_ne e, upd_ne e, upd_ne e]
  refine ⟨upd_same, [((.inr x : Key), .str y)], rfl, by show 1 ≤ 15; decide, ?_⟩
  show Q (.ref p) (upd (upd H p (.dK [])) p (.dK [((.inr x : Key), V.str y)]))
  rw [h2]
  have x0 : Ex H (upd H p (.dK [((.inr x : Key), V.str y)])) := Ex.new hp
  exact fin_op Stp.refl r x0 (.dic_mk (kvs' := [(.inr x, .str y)]) (kvs := [(.inr x, .str y)]) (by show grow _ _ _ _ = _; rw [grow_none hp, upd_same]) rfl (.cons (.str y) .nil)) (fun _ hf => by cases hf) k
end
section
variable {a : Str} {ds : List D} {i : Int}
@[simp] theorem gStrI_v : gStrI [.int i] = if i.natAbs.log2 < 1920 then some (.str (toString i)) else none := (rfl)
@[simp] theorem gIntT_v : gIntT [.str a] = if a.length ≤ 640 then (PySem.intText? a).map .int else none := (rfl)
end
end MV
namespace Ov
open PySem MV
def B_are_letters : M Fl := (sRet (eAndV (e2 gNe (eV 0) (eC (.str (Str.ofString "")))) (e2 gEq (eLc [1] (iS (eV 0)) (tgN 1) (tB (e2 gNotIn (eV 1) (eC (.str (Str.ofString "abcdefghijklmnopqrstuvwxyz"))))) (eV 1)) (eN gLst aNil))))
def F_are_letters : List D → FR := runF 2 B_are_letters
def B_is_length : M Fl := (sSeq (sIf (tOr2 (tNot1 (tB (eChain gLe gLe (eC (.int 1)) (eN gLen (aCons (eV 0) aNil)) (eC (.int 3))))) (tB (e2 gNe (eLc [1] (iS (eV 0)) (tgN 1) (tB (e2 gNotIn (eV 1) (eC (.str (Str.ofString "0123456789"))))) (eV 1)) (eN gLst aNil)))) (sRet (eC (.bl false))) sSkip)
  (sRet (eOrV (e2 gNe (e2 gIx (eV 0) (eC (.int 0))) (eC (.str (Str.ofString "0")))) (e2 gEq (eV 0) (eC (.str (Str.ofString "0")))))))
def F_is_length : List D → FR := runF 2 B_is_length
def B_numbers_text : M Fl := (sSeq (sIf (tB (e2 gEq (eV 0) (eN gLst aNil))) (sRet (eC (.str (Str.ofString "-")))) sSkip)
  (sRet (eM "str" gJoin (eC (.str (Str.ofString " "))) (aCons (eLc [1] (iL (eV 0)) (tgN 1) tTrue (eN gStrI (aCons (eV 1) aNil))) aNil))))
def F_numbers_text : List D → FR := runF 2 B_numbers_text
def B_Desk_need_told : M Fl := (sIf (tOr2 (tAnd2 (tTr (eV 1)) (tB (e2 gIsN (eFld 0 false) (eC .non)))) (tAnd2 (tTr (eV 2)) (tB (e2 gIsN (eFld 0 true) (eC .non))))) (sRaise (Str.ofString "NoneYet")) sSkip)
def F_Desk_need_told : List D → FR := runF 3 B_Desk_need_told
def B__law_class : M Fl := (sSeq (sSet 1 (eN gLst (aCons (e1 (gIsX [(Str.ofString "NoWord"), (Str.ofString "NoSign"), (Str.ofString "NoText"), (Str.ofString "NoCover"), (Str.ofString "NoNumber"), (Str.ofString "NoForm"), (Str.ofString "NoneYet")] (Str.ofString "NoWord")) (eV 0)) (aCons (e1 (gIsX [(Str.ofString "NoWord"), (Str.ofString "NoSign"), (Str.ofString "NoText"), (Str.ofString "NoCover"), (Str.ofString "NoNumber"), (Str.ofString "NoForm"), (Str.ofString "NoneYet")] (Str.ofString "NoSign")) (eV 0)) (aCons (e1 (gIsX [(Str.ofString "NoWord"), (Str.ofString "NoSign"), (Str.ofString "NoText"), (Str.ofString "NoCover"), (Str.ofString "NoNumber"), (Str.ofString "NoForm"), (Str.ofString "NoneYet")] (Str.ofString "NoText")) (eV 0)) (aCons (e1 (gIsX [(Str.ofString "NoWord"), (Str.ofString "NoSign"), (Str.ofString "NoText"), (Str.ofString "NoCover"), (Str.ofString "NoNumber"), (Str.ofString "NoForm"), (Str.ofString "NoneYet")] (Str.ofString "TooMany")) (eV 0)) aNil))))))
  (sSeq (sSet 1 (e2 gAdd (eV 1) (eN gLst (aCons (e1 (gIsX [(Str.ofString "NoWord"), (Str.ofString "NoSign"), (Str.ofString "NoText"), (Str.ofString "NoCover"), (Str.ofString "NoNumber"), (Str.ofString "NoForm"), (Str.ofString "NoneYet")] (Str.ofString "NoChain")) (eV 0)) (aCons (e1 (gIsX [(Str.ofString "NoWord"), (Str.ofString "NoSign"), (Str.ofString "NoText"), (Str.ofString "NoCover"), (Str.ofString "NoNumber"), (Str.ofString "NoForm"), (Str.ofString "NoneYet")] (Str.ofString "NoCover")) (eV 0)) (aCons (e1 (gIsX [(Str.ofString "NoWord"), (Str.ofString "NoSign"), (Str.ofString "NoText"), (Str.ofString "NoCover"), (Str.ofString "NoNumber"), (Str.ofString "NoForm"), (Str.ofString "NoneYet")] (Str.ofString "NoForm")) (eV 0)) (aCons (e1 (gIsX [(Str.ofString "NoWord"), (Str.ofString "NoSign"), (Str.ofString "NoText"), (Str.ofString "NoCover"), (Str.ofString "NoNumber"), (Str.ofString "NoForm"), (Str.ofString "NoneYet")] (Str.ofString "NoNumber")) (eV 0)) aNil)))))))
  (sRet (eF (e2 gAdd (eV 1) (eN gLst (aCons (e1 (gIsX [(Str.ofString "NoWord"), (Str.ofString "NoSign"), (Str.ofString "NoText"), (Str.ofString "NoCover"), (Str.ofString "NoNumber"), (Str.ofString "NoForm"), (Str.ofString "NoneYet")] (Str.ofString "NoneYet")) (eV 0)) (aCons (eNotV (e1 (gIsX [(Str.ofString "NoWord"), (Str.ofString "NoSign"), (Str.ofString "NoText"), (Str.ofString "NoCover"), (Str.ofString "NoNumber"), (Str.ofString "NoForm"), (Str.ofString "NoneYet")] (Str.ofString "ValueError")) (eV 0))) aNil))))))))
def F__law_class : List D → FR := runF 2 B__law_class
def B__law_menu_v2 : M Fl := (sSeq (sSet 0 (eN gLst (aCons (eC (.str (Str.ofString ""))) (aCons (eC (.str (Str.ofString " "))) (aCons (eC (.str (Str.ofString "text"))) (aCons (eC (.str (Str.ofString "text "))) (aCons (eC (.str (Str.ofString "text A"))) (aCons (eC (.str (Str.ofString "text a b"))) aNil))))))))
  (sSeq (sSet 0 (e2 gAdd (eV 0) (eN gLst (aCons (eC (.str (Str.ofString "text a-"))) (aCons (eC (.str (Str.ofString "text --"))) (aCons (eC (.str (Str.ofString "Text a"))) (aCons (eC (.str (Str.ofString "texts"))) (aCons (eC (.str (Str.ofString "texts "))) (aCons (eC (.str (Str.ofString "texts 01"))) aNil)))))))))
  (sSeq (sSet 0 (e2 gAdd (eV 0) (eN gLst (aCons (eC (.str (Str.ofString "texts -1"))) (aCons (eC (.str (Str.ofString "texts 1000"))) (aCons (eC (.str (Str.ofString "texts x"))) (aCons (eC (.str (Str.ofString "texts 1 2"))) (aCons (eC (.str (Str.ofString "texts  1"))) aNil))))))))
  (sSeq (sSet 0 (e2 gAdd (eV 0) (eN gLst (aCons (eC (.str (Str.ofString "texts +1"))) (aCons (eC (.str (Str.ofString "texts 1_0"))) (aCons (eC (.str (Str.ofString "word"))) (aCons (eC (.str (Str.ofString "word "))) aNil)))))))
  (sSeq (sSet 0 (e2 gAdd (eV 0) (eN gLst (aCons (eC (.str (Str.ofString "word -"))) (aCons (eC (.str (Str.ofString "word a1"))) (aCons (eC (.str (Str.ofString "word Ab"))) (aCons (eC (.str (Str.ofString "word a b"))) (aCons (eC (.str (Str.ofString "words ab"))) aNil))))))))
  (sSeq (sSet 0 (e2 gAdd (eV 0) (eN gLst (aCons (eC (.str (Str.ofString "cover"))) (aCons (eC (.str (Str.ofString "covers "))) (aCons (eC (.str (Str.ofString "covers 1"))) (aCons (eC (.str (Str.ofString "Covers"))) (aCons (eC (.str (Str.ofString " covers"))) aNil))))))))
  (sSeq (sSet 0 (e2 gAdd (eV 0) (eN gLst (aCons (eC (.str (Str.ofString "shortest 1"))) (aCons (eC (.str (Str.ofString "lie"))) (aCons (eC (.str (Str.ofString "lies 0"))) (aCons (eC (.str (Str.ofString "laid ab"))) (aCons (eC (.str (Str.ofString "fewest "))) (aCons (eC (.str (Str.ofString "wrong 1"))) aNil)))))))))
  (sSeq (sSet 0 (e2 gAdd (eV 0) (eN gLst (aCons (eC (.str (Str.ofString "ends 2"))) (aCons (eC (.str (Str.ofString "end"))) (aCons (eC (.str (Str.ofString "ab"))) (aCons (eC (.str (Str.ofString "-"))) (aCons (eC (.str (Str.ofString "5"))) aNil))))))))
  (sSeq (sSet 0 (e2 gAdd (eV 0) (eN gLst (aCons (eC (.str (Str.ofString "covers\n"))) (aCons (eC (.str (Str.ofString "text ab\n"))) (aCons (eC (.str (Str.ofString "word ab\n"))) (aCons (eC (.str (Str.ofString "text a.b"))) aNil)))))))
  (sSeq (sSet 0 (e2 gAdd (eV 0) (eN gLst (aCons (eC (.str (Str.ofString "word a\tb"))) (aCons (eC (.str (Str.ofString "text ab{"))) (aCons (eC (.str (Str.ofString "word `a"))) aNil))))))
  (sSeq (sSet 0 (e2 gAdd (eV 0) (eN gLst (aCons (eC (.str (Str.ofString "texts 00"))) (aCons (eC (.str (Str.ofString "texts12"))) (aCons (eC (.str (Str.ofString "wordab"))) (aCons (eC (.str (Str.ofString "textab"))) (aCons (eC (.str (Str.ofString "text ab1"))) (aCons (eC (.str (Str.ofString "text 1"))) (aCons (eC (.str (Str.ofString "word 1"))) (aCons (eC (.str (Str.ofString "text  ab"))) (aCons (eC (.str (Str.ofString "word  ab"))) aNil))))))))))))
  (sSeq (sSet 0 (e2 gAdd (eV 0) (eN gLst (aCons (eC (.str (Str.ofString "texts 000"))) (aCons (eC (.str (Str.ofString "texts 007"))) (aCons (eC (.str (Str.ofString "text-"))) (aCons (eC (.str (Str.ofString "text `a"))) (aCons (eC (.str (Str.ofString "word ab{"))) (aCons (eC (.str (Str.ofString "word a-"))) (aCons (eC (.str (Str.ofString "word a.b"))) (aCons (eC (.str (Str.ofString "text a-b"))) aNil)))))))))))
  (sRet (e2 gAdd (eV 0) (eN gLst (aCons (eC .non) (aCons (eC (.int 3)) (aCons (eC (.bl true)) (aCons (eN gLst aNil) (aCons (eN gLst (aCons (eC (.str (Str.ofString "covers"))) aNil)) (aCons (eN gTupD (aCons (eC (.str (Str.ofString "text"))) (aCons (eC (.str (Str.ofString "ab"))) aNil))) (aCons (e2 gPow (eC (.int 10)) (eC (.int 20))) (aCons (eN gDNewK aNil) (aCons (eC (.dic [(.inr (Str.ofString "text"), .str (Str.ofString "ab"))])) (aCons (eN gTupD aNil) aNil)))))))))))))))))))))))))
def F__law_menu_v2 : List D → FR := runF 1 B__law_menu_v2
def B__law_signs_v4 : M Fl := (sRet (eC (.str (Str.ofString " !\"#$&'()*+,-./:;<=>?@ABCDEFGHIJKLMNOPQRSTUVWXYZ[\\]^_`{|}~"))))
def F__law_signs_v4 : List D → FR := runF 0 B__law_signs_v4
def B__law_longer : M Fl := (sSeq (sSet 1 (e2 gAdd (eC (.int 1)) (eCall F__law_digit (aCons (eV 0) (aCons (eC (.int 6)) (aCons (e2 gIx (eN gLst (aCons (eC (.int 5)) (aCons (eC (.int 200)) aNil))) (eCall F__law_digit (aCons (eV 0) (aCons (eC (.int 7)) (aCons (eC (.int 2)) aNil))))) aNil))))))
  (sSeq (sSet 2 (eM "str" gJoin (eC (.str (Str.ofString ""))) (aCons (eCall F__law_word_v2 (aCons (eV 0) (aCons (eC (.int 10)) (aCons (eV 1) (aCons (eC (.int 26)) aNil))))) aNil)))
  (sSeq (sSet 3 (e2 gIx (eN gLst (aCons (eF (e2 gAdd (eC (.str (Str.ofString "text "))) (eV 2))) (aCons (eF (e2 gAdd (eC (.str (Str.ofString "word "))) (eV 2))) (aCons (eC (.str (Str.ofString "covers"))) (aCons (eC (.str (Str.ofString "lies"))) (aCons (eC (.str (Str.ofString "texts 12"))) aNil)))))) (eCall F__law_digit (aCons (eV 0) (aCons (eC (.int 2)) (aCons (eC (.int 5)) aNil))))))
  (sSeq (sSet 4 (eCall F__law_digit (aCons (eV 0) (aCons (eC (.int 3)) (aCons (e2 gAdd (eN gLen (aCons (eV 3) aNil)) (eC (.int 1))) aNil)))))
  (sSeq (sSet 5 (eCall F__law_signs_v4 aNil))
  (sSeq (sIf (tB (e2 gIn (eSl (eV 3) oNone (oSome (eC (.int 5)))) (eN gLst (aCons (eC (.str (Str.ofString "text "))) (aCons (eC (.str (Str.ofString "word "))) aNil))))) (sSet 5 (e2 gAdd (eV 5) (eC (.str (Str.ofString "0123456789"))))) sSkip)
  (sRet (eF (e2 gAdd (e2 gAdd (eSl (eV 3) oNone (oSome (eV 4))) (e2 gIx (eV 5) (eCall F__law_digit (aCons (eV 0) (aCons (eC (.int 4)) (aCons (eN gLen (aCons (eV 5) aNil)) aNil)))))) (eSl (eV 3) (oSome (eV 4)) oNone))))))))))
def F__law_longer : List D → FR := runF 6 B__law_longer
def B_Desk_yes_or_no : M Fl := (sSeq (sIf (tB (e2 gEq (eV 1) (eC (.int 0)))) (sSet 2 (eCall F_rest_behind (aCons (eFld 0 false) (aCons (eFld 0 true) aNil)))) (sIf (tB (e2 gEq (eV 1) (eC (.int 1)))) (sSet 2 (eCall F_rest_ahead (aCons (eFld 0 false) (aCons (eFld 0 true) aNil)))) (sSet 2 (eCall F_rest_both (aCons (eFld 0 false) (aCons (eFld 0 true) aNil))))))
  (sRet (e2 gIx (eN gLst (aCons (eC (.str (Str.ofString "no"))) (aCons (eC (.str (Str.ofString "yes"))) aNil))) (eN gInt1 (aCons (eV 2) aNil)))))
def F_Desk_yes_or_no : List D → FR := runF 3 B_Desk_yes_or_no
def B_Desk_of_both : M Fl := (sSeq (sIf (tB (e2 gEq (eV 1) (eC (.str (Str.ofString "lies"))))) (sRet (eCall F_numbers_text (aCons (eCall F_lies_at (aCons (eFld 0 false) (aCons (eFld 0 true) aNil))) aNil))) sSkip)
  (sSeq (sIf (tB (e2 gEq (eV 1) (eC (.str (Str.ofString "laid"))))) (sSeq (sUnp (eCall F_covered (aCons (eFld 0 false) (aCons (eFld 0 true) aNil))) (tgT [2, 3]))
  (sSeq (sIf (tB (e2 gEq (eV 2) (eC (.str (Str.ofString "covers"))))) (sRet (e2 gAdd (eC (.str (Str.ofString "covers "))) (eN gStrI (aCons (eN gLen (aCons (eV 3) aNil)) aNil)))) sSkip)
  (sRet (e2 gAdd (eC (.str (Str.ofString "bare "))) (eN gStrI (aCons (eV 3) aNil)))))) sSkip)
  (sSeq (sIf (tB (e2 gEq (eV 1) (eC (.str (Str.ofString "fewest"))))) (sRet (eCall F_numbers_text (aCons (eCall F_fewest_layings (aCons (eFld 0 false) (aCons (eFld 0 true) aNil))) aNil))) sSkip)
  (sSeq (sIf (tB (e2 gEq (eV 1) (eC (.str (Str.ofString "wrong"))))) (sSeq (sUnp (eCall F_fewest_wrong (aCons (eFld 0 false) (aCons (eFld 0 true) aNil))) (tgT [4, 5]))
  (sRet (e2 gAdd (e2 gAdd (eN gStrI (aCons (eV 4) aNil)) (eC (.str (Str.ofString ": ")))) (eCall F_numbers_text (aCons (eV 5) aNil))))) sSkip)
  (sRet (eM "str" gJoin (eC (.str (Str.ofString " "))) (aCons (eLc [6] (iN gR1 (aCons (eC (.int 3)) aNil)) (tgN 6) tTrue (eCallD F_Desk_yes_or_no 0 (aCons (eV 6) aNil))) aNil)))))))
def F_Desk_of_both : List D → FR := runF 7 B_Desk_of_both
def B_Desk_of_text : M Fl := (sSeq (sIf (tB (e2 gEq (eV 1) (eC (.str (Str.ofString "covers"))))) (sRet (eCall F_numbers_text (aCons (eCall F_all_covers (aCons (eFld 0 false) aNil)) aNil))) sSkip)
  (sRet (eM "str" gJoin (eC (.str (Str.ofString ""))) (aCons (eSl (eFld 0 false) oNone (oSome (eCall F_shortest_cover (aCons (eFld 0 false) aNil)))) aNil))))
def F_Desk_of_text : List D → FR := runF 2 B_Desk_of_text
def B_Desk_say : M Fl := (sSeq (sIf (tNot1 (tB (eIsi "str" (eV 1)))) (sRaise (Str.ofString "NoForm")) sSkip)
  (sSeq (sIf (tAnd2 (tB (e2 gEq (eSl (eV 1) oNone (oSome (eC (.int 5)))) (eC (.str (Str.ofString "text "))))) (tOr2 (tB (e2 gEq (eSl (eV 1) (oSome (eC (.int 5))) oNone) (eC (.str (Str.ofString "-"))))) (tB (eCall F_are_letters (aCons (eSl (eV 1) (oSome (eC (.int 5))) oNone) aNil))))) (sSeq (sFldS 0 false (eF (eLc [2] (iS (eSl (eV 1) (oSome (eC (.int 5))) oNone)) (tgN 2) (tB (e2 gNe (eV 2) (eC (.str (Str.ofString "-"))))) (eV 2))))
  (sRet (e2 gAdd (eC (.str (Str.ofString "signs "))) (eN gStrI (aCons (eN gLen (aCons (eFld 0 false) aNil)) aNil))))) sSkip)
  (sSeq (sIf (tAnd2 (tB (e2 gEq (eSl (eV 1) oNone (oSome (eC (.int 5)))) (eC (.str (Str.ofString "word "))))) (tB (eCall F_are_letters (aCons (eSl (eV 1) (oSome (eC (.int 5))) oNone) aNil)))) (sSeq (sFldS 0 true (eF (eN gList1 (aCons (eSl (eV 1) (oSome (eC (.int 5))) oNone) aNil))))
  (sRet (e2 gAdd (eC (.str (Str.ofString "signs "))) (eN gStrI (aCons (eN gLen (aCons (eFld 0 true) aNil)) aNil))))) sSkip)
  (sSeq (sIf (tAnd2 (tB (e2 gEq (eSl (eV 1) oNone (oSome (eC (.int 6)))) (eC (.str (Str.ofString "texts "))))) (tB (eCall F_is_length (aCons (eSl (eV 1) (oSome (eC (.int 6))) oNone) aNil)))) (sSeq (sDrop (eCallD F_Desk_need_told 0 (aCons (eC (.bl false)) (aCons (eC (.bl true)) aNil))))
  (sRet (eN gStrI (aCons (eCall F_count_covered (aCons (eFld 0 true) (aCons (eN gIntT (aCons (eSl (eV 1) (oSome (eC (.int 6))) oNone) aNil)) aNil))) aNil)))) sSkip)
  (sSeq (sIf (tOr2 (tB (e2 gEq (eV 1) (eC (.str (Str.ofString "covers"))))) (tB (e2 gEq (eV 1) (eC (.str (Str.ofString "shortest")))))) (sSeq (sDrop (eCallD F_Desk_need_told 0 (aCons (eC (.bl true)) (aCons (eC (.bl false)) aNil))))
  (sRet (eCallD F_Desk_of_text 0 (aCons (eV 1) aNil)))) sSkip)
  (sSeq (sIf (tB (e2 gIn (eV 1) (eN gTupD (aCons (eC (.str (Str.ofString "lies"))) (aCons (eC (.str (Str.ofString "laid"))) (aCons (eC (.str (Str.ofString "fewest"))) (aCons (eC (.str (Str.ofString "wrong"))) (aCons (eC (.str (Str.ofString "ends"))) aNil)))))))) (sSeq (sDrop (eCallD F_Desk_need_told 0 (aCons (eC (.bl true)) (aCons (eC (.bl true)) aNil))))
  (sRet (eCallD F_Desk_of_both 0 (aCons (eV 1) aNil)))) sSkip)
  (sRaise (Str.ofString "NoForm"))))))))
def F_Desk_say : List D → FR := runF 3 B_Desk_say
def B__law_said_v8_l1 : M Fl := (sSet 2 (eCallD F_Desk_say 0 (aCons (eV 1) aNil)))
def B__law_said_v8_l2 : M Fl := (sSet 2 (eCall F__law_class (aCons (eV 3) aNil)))
def B__law_said_v8 : M Fl := (sSeq (sSet 2 (eC .non))
  (sSeq (sTryH [(Str.ofString "NoWord"), (Str.ofString "NoSign"), (Str.ofString "NoText"), (Str.ofString "NoCover"), (Str.ofString "NoNumber"), (Str.ofString "NoForm"), (Str.ofString "NoneYet")] 3 B__law_said_v8_l1 B__law_said_v8_l2)
  (sRet (eV 2))))
def F__law_said_v8 : List D → FR := runF 4 B__law_said_v8
def B_law_k47_l1 : M Fl := (sIf (tB (e2 gNe (eN gLst (aCons (eCallD F__law_said_v8 2 (aCons (e2 gAdd (e2 gAdd (eC (.str (Str.ofString "text ab"))) (eV 6)) (eC (.str (Str.ofString "c")))) aNil)) (aCons (eCallD F__law_said_v8 2 (aCons (e2 gAdd (e2 gAdd (eC (.str (Str.ofString "word "))) (eV 6)) (eC (.str (Str.ofString "ab")))) aNil)) aNil))) (eN gLst (aCons (eV 5) (aCons (eV 5) aNil))))) (sRet (eC (.bl false))) sSkip)
def B_law_k47_l2 : M Fl := (sSeq (sSet 8 (eCallQ F__law_cell_at 0 (aCons (eV 7) aNil)))
  (sSeq (sSet 9 (e2 gIx (eV 4) (e2 gMod (e2 gAdd (e2 gAdd (eCall F__law_digit (aCons (eV 1) (aCons (eC (.int 1)) (aCons (eN gLen (aCons (eV 4) aNil)) aNil)))) (e2 gMul (eV 7) (eC (.int 11)))) (eCall F__law_digit (aCons (eV 8) (aCons (eC (.int 1)) (aCons (eC (.int 3)) aNil))))) (eN gLen (aCons (eV 4) aNil)))))
  (sSeq (sIf (tB (e2 gEq (eCall F__law_digit (aCons (eV 8) (aCons (eC (.int 5)) (aCons (eC (.int 3)) aNil)))) (eC (.int 0)))) (sSet 9 (eCall F__law_longer (aCons (eV 8) aNil))) sSkip)
  (sIf (tOr2 (tB (e2 gNe (eCallD F__law_said_v8 2 (aCons (eV 9) aNil)) (eV 5))) (tB (e2 gNe (eCallD F__law_said_v8 2 (aCons (eC (.str (Str.ofString "laid"))) aNil)) (eV 3)))) (sRet (eC (.bl false))) sSkip))))
def B_law_k47 : M Fl := (sSeq (sSet 1 (eCallQ F__law_cell_at 0 (aCons (eC (.int 0)) aNil)))
  (sSeq (sMkD 2)
  (sSeq (sSet 3 (e2 gAdd (e2 gMul (eN gLst (aCons (eC (.bl false)) aNil)) (eC (.int 8))) (eN gLst (aCons (eC (.bl true)) (aCons (eC (.bl false)) aNil)))))
  (sSeq (sIf (tB (e2 gEq (eCall F__law_digit (aCons (eV 1) (aCons (eC (.int 0)) (aCons (eC (.int 2)) aNil)))) (eC (.int 0)))) (sSeq (sDrop (eCallD F_Desk_say 2 (aCons (eC (.str (Str.ofString "text aabaa"))) aNil)))
  (sSeq (sDrop (eCallD F_Desk_say 2 (aCons (eC (.str (Str.ofString "word aa"))) aNil)))
  (sSet 3 (eC (.str (Str.ofString "bare 2")))))) sSkip)
  (sSeq (sSet 4 (eCall F__law_menu_v2 aNil))
  (sSeq (sSet 5 (e2 gAdd (e2 gAdd (e2 gMul (eN gLst (aCons (eC (.bl false)) aNil)) (eC (.int 6))) (eN gLst (aCons (eC (.bl true)) aNil))) (e2 gMul (eN gLst (aCons (eC (.bl false)) aNil)) (eC (.int 3)))))
  (sSeq (sFor (iS (e2 gAdd (eCall F__law_signs_v4 aNil) (eC (.str (Str.ofString "0123456789\t\n"))))) (tgN 6) B_law_k47_l1)
  (sSeq (sFor (iN gR1 (aCons (eN gMin2 (aCons (eC (.int 70)) (aCons (e2 gAdd (eC (.int 6)) (eLenQ 0)) aNil))) aNil)) (tgN 7) B_law_k47_l2)
  (sRet (eC (.bl true)))))))))))
def F_law_k47 : List D → FR := runF 10 B_law_k47
end Ov
namespace Ov
open PySem (Str)
open MV
def Lt (z : Str) (n : Nat) : Prop := z.cps.size = n ∧ ∀ c ∈ z.cps.toList, 97 ≤ c ∧ c ≤ 122
theorem lt_all : Lt (Str.ofString "abcdefghijklmnopqrstuvwxyz") 26 := ⟨by decide +kernel, by decide +kernel⟩
theorem Lt.len {z : Str} {n : Nat} (h : Lt z n) : z.length = n := h.1
theorem Lt.at {z : Str} {n r : Nat} (h : Lt z n) (hr : r < n) : ∃ c, L2.atI z.cps.toList (r : Int) = some c ∧ Sg ⟨#[c]⟩ := by
  rw [atI_eq]
  have hl : r < z.cps.toList.length := by rw [Array.length_toList, h.1]; exact hr
  rw [List.getElem?_eq_getElem hl]
  obtain ⟨h1, h2⟩ := h.2 _ (List.getElem_mem hl)
  exact ⟨_, rfl, _, rfl, h1, h2⟩
theorem cps_app (x y : Str) : (x ++ y).cps.toList = x.cps.toList ++ y.cps.toList := by
  show (x.cps ++ y.cps).toList = _
  simp
theorem cps_cut (z : Str) (lo hi : Option Int) : (L2.cutS z lo hi).cps.toList = cutA z.cps.toList lo hi := by
  unfold L2.cutS cutA
  simp [PySem.Str.length]
end Ov
namespace Ov
open PySem (Str)
open MV
end Ov
namespace Ov
open PySem (Str)
open MV
end Ov
namespace Ov
open PySem (Str)
open MV
theorem sg_in {x : Str} (h : Sg x) : x.length = 1 ∧ gNotIn (.str x) (.str (Str.ofString "abcdefghijklmnopqrstuvwxyz")) = some (.bl false) := by
  obtain ⟨c, rfl, h1, h2⟩ := h
  refine ⟨rfl, ?_⟩
  have : ∀ c : Nat, 97 ≤ c → c ≤ 122 → c ∈ (Str.ofString "abcdefghijklmnopqrstuvwxyz").cps.toList := by
    have : ∀ k : Fin 26, (97 + k.val) ∈ (Str.ofString "abcdefghijklmnopqrstuvwxyz").cps.toList := by decide +kernel
    intro c h1 h2
    have := this ⟨c - 97, by omega⟩
    simpa [show 97 + (c - 97) = c by omega] using this
  have := this c h1 h2
  show (inOk _ _).map _ = _
  unfold inOk
  simp [this]
theorem need_signs_val {t : List Str} (ht : Tx t) (hl : t.length ≤ LIM) : F_need_signs [dT t] = .ok .non (dT t) := by
  have h1 := lc_pure (is := [1]) (tg := tgN 1) (t := tOr2 (tB (e2 gNe (eN gLen (aCons (eV 1) aNil)) (eC (.int 1)))) (tB (e2 gNotIn (eV 1) (eC (.str (Str.ofString "abcdefghijklmnopqrstuvwxyz")))))) (fe := eV 1) (e := [some (dT t), none]) (φ := D.str) (p := fun _ => false) (g := D.str) t [] (by simpa using hl)
    (fun x hx => ⟨_, [some (dT t), some (.str x)], rfl, by
      obtain ⟨q1, q2⟩ := sg_in (ht x hx)
      have l1 : (1 : Nat) ≤ LIM := by decide
      simp [q1, l1, q2], (fun h => by cases h), fun _ => rfl⟩)
  rw [filter_no] at h1
  simp only [F_need_signs, r_runF, B_need_signs]
  simp [h1, hsz0]
theorem need_word_val {w : List Str} (hw : Tx w) (h0 : w ≠ []) : F_need_word [dT w] = .ok .non (dT w) := by
  simp only [F_need_word, r_runF, B_need_word]
  simp [hsz0, gEq_nT hw.ok, h0]
def lies (t w : List Str) : List Nat := (List.range (t.length + 1 - w.length)).filter fun p => decide ((t.drop p).take w.length = w)
theorem laid_at_val {t w : List Str} (ht : Tx t) (hw : Tx w) (hl : t.length ≤ 1000) (hl2 : w.length ≤ 1000) : F_laid_at [dT t, dT w] = .ok (dN (lies t w)) (dT t) := by
  have hs : smallI ((t.length : Int) - (w.length : Int) + 1) = true := small_of (by omega) (by omega)
  have h1 := lc_nat (is := [3]) (tg := tgN 3) (t := tB (e2 gEq (eSl (eV 0) (oSome (eV 3)) (oSome (e2 gAdd (eV 3) (eV 2)))) (eV 1))) (fe := eV 3) (e := [some (dT t), some (dT w), some (.int w.length), none]) (fun p => decide ((t.drop p).take w.length = w)) (fun k => .int (k : Int)) (List.range (t.length + 1 - w.length)) (by rw [List.length_range]; show _ ≤ 100000; omega)
    (fun k hk => by
      refine ⟨_, [some (dT t), some (dT w), some (.int w.length), some (.int k)], rfl, ?_, fun _ => ⟨_, rfl, rfl⟩, fun _ => rfl⟩
      have := gEq_dT ((ht.drop k).take w.length).ok hw.ok
      simp [cutA_map, cutA_mid2, this, -List.map_take, -List.map_drop])
  have e1 : ((t.length : Int) - (w.length : Int) + 1).toNat = t.length + 1 - w.length := by omega
  simp only [F_laid_at, r_runF, B_laid_at]
  simp [hs, rng0, e1, h1, lies]
theorem lies_at_val {t w : List Str} (ht : Tx t) (hw : Tx w) (h0 : w ≠ []) (hl : t.length ≤ 1000) (hl2 : w.length ≤ 1000) : F_lies_at [dT t, dT w] = .ok (dN (lies t w)) (dT t) := by
  have hL : t.length + w.length ≤ LIM := by show _ ≤ 100000; omega
  have hn := need_signs_val (ht.append hw) (by rw [List.length_append]; exact hL)
  simp only [F_lies_at, r_runF, B_lies_at]
  have hn : F_need_signs [.lst (t.map D.str ++ w.map D.str)] = .ok .non (dT (t ++ w)) := by rw [← List.map_append]; exact hn
  simp [need_word_val hw h0, hL, hn, laid_at_val ht hw hl hl2]
end Ov
namespace Ov
open PySem (Str PyData)
open MV
end Ov
namespace Ov
open PySem (Str)
open MV
section
variable {α : Type} [DecidableEq α]
def isB (t : List α) (n k : Nat) : Prop := k < n ∧ n ≤ t.length ∧ ∀ j, j < k → t[j]? = t[n - k + j]?
def isG (t : List α) (n g : Nat) : Prop := isB t n g ∧ ∀ k, isB t n k → k ≤ g
variable {t : List α} {n k m g : Nat}
end
end Ov
namespace Ov
open PySem (Str)
open MV
theorem dN_at {l : List Nat} {k : Nat} (h : k < l.length) : L2.atI (l.map fun k : Nat => D.int (k : Int)) (k : Int) = some (.int (l[k] : Nat)) := by
  rw [atI_eq, List.getElem?_map, List.getElem?_eq_getElem h]; rfl
def Gs (t : List Str) (G : List Nat) (i : Nat) : Prop := G.length = i ∧ ∀ m, m < i → ∃ g, G[m]? = some g ∧ isG t (m + 1) g
theorem Gs.at {t : List Str} {G : List Nat} {i m : Nat} (h : Gs t G i) (hm : m < i) : ∃ g : Nat, L2.atI (G.map fun k : Nat => D.int (k : Int)) (m : Int) = some (.int (g : Nat)) ∧ isG t (m + 1) g := by
  obtain ⟨g, g1, g2⟩ := h.2 m hm
  have hgl : m < G.length := by rw [h.1]; exact hm
  refine ⟨g, ?_, g2⟩
  rw [dN_at hgl]
  rw [List.getElem?_eq_getElem hgl] at g1; rw [Option.some.inj g1]
end Ov
namespace Ov
open PySem (Str PyData)
open MV
def isSg (x : Str) : Bool := decide (x.length = 1) && x.cps.toList.all fun c => decide (97 ≤ c) && decide (c ≤ 122)
theorem isSg_iff {x : Str} : isSg x = true ↔ Sg x := by
  unfold isSg Sg
  rw [Bool.and_eq_true, decide_eq_true_iff]
  constructor
  · rintro ⟨h1, h2⟩
    obtain ⟨⟨l⟩⟩ := x
    have h1 : l.length = 1 := h1
    obtain ⟨c, rfl⟩ := List.length_eq_one_iff.mp h1
    simp at h2
    exact ⟨c, rfl, h2⟩
  · rintro ⟨c, rfl, h1, h2⟩
    exact ⟨rfl, by simp [h1, h2]⟩
def Gd (t : List Str) : Prop := ∀ x ∈ t, okS x ∧ x.length ≤ 100
theorem Gd.ok {t : List Str} (h : Gd t) : ∀ x ∈ t, okS x := fun x hx => (h x hx).1
theorem Gd.append {t u : List Str} (h : Gd t) (h2 : Gd u) : Gd (t ++ u) := fun x hx => (List.mem_append.mp hx).elim (h x) (h2 x)
theorem letters_in (c : Nat) : decide (c ∈ (Str.ofString "abcdefghijklmnopqrstuvwxyz").cps.toList) = (decide (97 ≤ c) && decide (c ≤ 122)) := by
  have h1 : (Str.ofString "abcdefghijklmnopqrstuvwxyz").cps.toList = (List.range 26).map (97 + ·) := by decide +kernel
  rw [h1]
  rw [Bool.eq_iff_iff, decide_eq_true_iff, Bool.and_eq_true, decide_eq_true_iff, decide_eq_true_iff, List.mem_map]
  constructor
  · rintro ⟨k, hk, rfl⟩
    rw [List.mem_range] at hk
    omega
  · rintro ⟨h2, h3⟩
    exact ⟨c - 97, by rw [List.mem_range]; omega, by omega⟩
abbrev everyS : Str := Str.ofString "abcdefghijklmnopqrstuvwxyz"
theorem okS_of {x : Str} (h : ∀ c ∈ x.cps.toList, c ≤ 126) : okS x := by
  unfold okS PyData.strOk
  obtain ⟨⟨l⟩⟩ := x
  simp
  intro c hc
  have := h c hc
  omega
theorem every_at {r : Nat} (hr : r < 26) : ∃ c, L2.atI everyS.cps.toList (r : Int) = some c ∧ Sg ⟨#[c]⟩ := lt_all.at hr
end Ov
namespace Ov
open PySem (Str PyData)
open MV
def Lay (n : Nat) (d : D) : Prop := ∃ p, d.toP = some p ∧ p.canLay0 = true ∧ p.depth ≤ n
theorem lay_bl {n : Nat} (i : Bool) : Lay n (.bl i) := ⟨.bool i, rfl, by simp [PyData.canLay0], by simp [PyData.depth]⟩
theorem lay_str {n : Nat} {x : Str} (h : okS x) : Lay n (.str x) := ⟨.str x, rfl, by simp [PyData.canLay0]; exact h, by simp [PyData.depth]⟩
theorem lay_all {n : Nat} : ∀ {l : List D}, (∀ x ∈ l, Lay n x) → ∃ ps, toPs l = some ps ∧ PyData.canLayAll0 ps = true ∧ PyData.depthAll ps ≤ n
  | [], _ => ⟨[], rfl, by simp [PyData.canLayAll0], by simp [PyData.depthAll]⟩
  | d :: l, h => by
    obtain ⟨p, h1, h2, h3⟩ := h d List.mem_cons_self
    obtain ⟨ps, g1, g2, g3⟩ := lay_all (l := l) fun x hx => h x (List.mem_cons_of_mem _ hx)
    refine ⟨p :: ps, by rw [toPs, h1, g1], by rw [PyData.canLayAll0, h2, g2]; rfl, ?_⟩
    rw [PyData.depthAll]
    omega
theorem lay_lst {n : Nat} {l : List D} (h : ∀ x ∈ l, Lay n x) : Lay (n + 1) (.lst l) := by
  obtain ⟨ps, g1, g2, g3⟩ := lay_all h
  exact ⟨.list ps, toP_lst g1, by rw [PyData.canLay0]; exact g2, by rw [PyData.depth]; omega⟩
theorem Lay.le {n m : Nat} (h : n ≤ m) {d : D} (l : Lay n d) : Lay m d := let ⟨p, a, b, c⟩ := l; ⟨p, a, b, Nat.le_trans c h⟩
theorem deq_self {d : D} (h : Lay 64 d) : deq d d = some true := by
  obtain ⟨p, h1, h2, h3⟩ := h
  cases d with
  | lst l =>
    show (match (D.lst l).toP, (D.lst l).toP with | some p, some q => if PySem.SeqAt.shaped p && PySem.SeqAt.shaped q then some (PyData.eqv p q) else none | _, _ => none) = _
    rw [h1]
    have : PySem.SeqAt.shaped p = true := by unfold PySem.SeqAt.shaped; rw [h2, decide_eq_true h3]; rfl
    simp only [this, Bool.and_self, if_true, PySem.SeqAt.eqv_refl p h2]
  | tup l =>
    show (match (D.tup l).toP, (D.tup l).toP with | some p, some q => if PySem.SeqAt.shaped p && PySem.SeqAt.shaped q then some (PyData.eqv p q) else none | _, _ => none) = _
    rw [h1]
    have : PySem.SeqAt.shaped p = true := by unfold PySem.SeqAt.shaped; rw [h2, decide_eq_true h3]; rfl
    simp only [this, Bool.and_self, if_true, PySem.SeqAt.eqv_refl p h2]
  | int i => simp [deq]
  | str i => simp [deq]
  | bl i => cases i <;> rfl
  | non => rfl
  | dic _ => cases h1
  | dit _ => cases h1
  | exc _ => cases h1
theorem gNe_self {d : D} (h : Lay 64 d) : gNe d d = some (.bl false) := by unfold gNe; rw [deq_self h]; rfl
theorem mulOk_of {i j : Int} {a b : Nat} (hi : i.natAbs < 2 ^ a) (hj : j.natAbs < 2 ^ b) (h0 : 0 < a) (h1 : 0 < b) (h : a + b ≤ 1000000) : mulOk i j = true := by
  unfold mulOk
  rw [Bool.or_eq_true]
  exact .inr (decide_eq_true (L2.wide_mul hi hj h0 h1 h))
theorem mulOk_small {i j : Int} (h1 : -(2 ^ 64) < i) (h2 : i < 2 ^ 64) : mulOk i j = true := by
  unfold mulOk
  rw [Bool.or_eq_true]
  exact .inl (decide_eq_true (.inl ⟨h1, h2⟩))
theorem stir_ok (c : Int) {k : Nat} (hk : k ≤ 1000) : ∃ (r : Nat) (io : D), F__law_stir [.int c, .int k] = .ok (.int r) io := by
  have p60 : L2.CPow 10 60 := ⟨by decide, by decide, by decide⟩
  have p40 : L2.CPow 10 40 := ⟨by decide, by decide, by decide⟩
  have h0 : 0 ≤ c % 10 ^ 60 := Int.emod_nonneg _ (by decide)
  have h1 : c % 10 ^ 60 < 10 ^ 60 := Int.emod_lt_of_pos _ (by decide)
  generalize hm : c % 10 ^ 60 = m at h0 h1
  have hm' : c % 1000000000000000000000000000000000000000000000000000000000000 = m := hm
  have m3 : mulOk 3 (k : Int) = true := mulOk_small (by decide) (by decide)
  have m2 : mulOk 2 (k : Int) = true := mulOk_small (by decide) (by decide)
  have big : (10 : Int) ^ 60 + 10000 < 2 ^ 200 := by decide
  have n1 : (m + 3 * (k : Int) + 1).natAbs < 2 ^ 200 := by omega
  have n2 : (m + 3 * (k : Int) + 1 + 2 * (k : Int)).natAbs < 2 ^ 200 := by omega
  have n3 : (m + 3 * (k : Int) + 1 + 5).natAbs < 2 ^ 200 := by omega
  have q1 := mulOk_of n1 n2 (by decide) (by decide) (by decide)
  have n4 : ((m + 3 * (k : Int) + 1) * (m + 3 * (k : Int) + 1 + 2 * (k : Int))).natAbs < 2 ^ 400 := by
    rw [Int.natAbs_mul, show (400 : Nat) = 200 + 200 from rfl, Nat.pow_add]
    exact Nat.mul_lt_mul_of_lt_of_lt n1 n2
  have q2 := mulOk_of n4 n3 (by decide) (by decide) (by decide)
  have d7 : L2.CDiv ((m + 3 * (k : Int) + 1) * (m + 3 * (k : Int) + 1 + 2 * (k : Int)) * (m + 3 * (k : Int) + 1 + 5)) 7 := ⟨by decide, by decide⟩
  refine ⟨((m + 3 * (k : Int) + 1) * (m + 3 * (k : Int) + 1 + 2 * (k : Int)) * (m + 3 * (k : Int) + 1 + 5) / 7 % 10 ^ 40).toNat, .int c, ?_⟩
  rw [Int.toNat_of_nonneg (Int.emod_nonneg _ (by decide))]
  simp only [F__law_stir, r_runF, B__law_stir]
  simp [p60, p40, m3, hm', m2, q1, q2, d7]
theorem digit_ok (c : Int) {k : Nat} (hk : k ≤ 1000) {m : Nat} (hm : 0 < m) : ∃ (r : Nat) (io : D), F__law_digit [.int c, .int k, .int m] = .ok (.int r) io ∧ r < m := by
  have p18 : L2.CPow 10 18 := ⟨by decide, by decide, by decide⟩
  have m16 : mulOk 16 (k : Int) = true := mulOk_small (by decide) (by decide)
  have hm' : (0 : Int) < m := by omega
  by_cases hc : (10 : Int) ^ 18 ≤ c
  · have h16 : (0 : Int) ≤ 16 * (k : Int) := by omega
    refine ⟨(c / 2 ^ (16 * (k : Int)).toNat % 65536 % m).toNat, .int c, ?_, ?_⟩
    · rw [Int.toNat_of_nonneg (Int.emod_nonneg _ (by omega))]
      simp only [F__law_digit, r_runF, B__law_digit]
      have hc' : (1000000000000000000 : Int) ≤ c := hc
      simp [p18, hc', m16, h16, hm, gShr_i]
    · have := Int.emod_lt_of_pos (c / 2 ^ (16 * (k : Int)).toNat % 65536) hm'
      have := Int.emod_nonneg (c / 2 ^ (16 * (k : Int)).toNat % 65536) (show (m : Int) ≠ 0 by omega)
      omega
  · obtain ⟨r, io, h1⟩ := stir_ok c hk
    refine ⟨r % m, .int c, ?_, Nat.mod_lt _ hm⟩
    have hc' : ¬ (1000000000000000000 : Int) ≤ c := hc
    simp only [F__law_digit, r_runF, B__law_digit]
    simp [p18, hc', h1, hm]
theorem letter_at {r : Nat} (hr : r < 26) : ∃ x, gIx (.str (Str.ofString "abcdefghijklmnopqrstuvwxyz")) (.int r) = some (.str x) ∧ Sg x := by
  obtain ⟨c, h1, h2⟩ := every_at hr
  refine ⟨⟨#[c]⟩, ?_, h2⟩
  have le : (Str.ofString "abcdefghijklmnopqrstuvwxyz").length ≤ LIM := by decide +kernel
  rw [gIx_s, if_pos le]
  have h1 : L2.atI (Str.ofString "abcdefghijklmnopqrstuvwxyz").cps.toList (r : Int) = some c := h1
  rw [h1]; rfl
theorem rword_ok (c : Int) {b many sorts : Nat} (hb : b ≤ 200) (hm : many ≤ 200) (hs : 0 < sorts) : ∃ w io, F__law_word_v2 [.int c, .int b, .int many, .int sorts] = .ok (dT w) io ∧ Tx w ∧ w.length = many := by
  obtain ⟨off, i1, a1, a2⟩ := digit_ok c (k := b) (by omega) (m := 26) (by decide)
  have hs' : smallI (many : Int) = true := small_of (by omega) (by omega)
  have a1 : F__law_digit [.int c, .int b, .int 26] = .ok (.int off) i1 := a1
  obtain ⟨acc, e', h1, t, rfl, rfl, q1, q2⟩ := lc_inv (is := [6]) (tg := tgN 6) (t := tTrue) (fe := e2 gIx (eV 4) (e2 gMod (e2 gAdd (eV 5) (eCall F__law_digit (aCons (eV 0) (aCons (e2 gAdd (e2 gAdd (eV 1) (eC (.int 1))) (eV 6)) (aCons (eV 3) aNil))))) (eC (.int 26)))) (ds := rngD 0 many)
    (fun i acc e => ∃ t, acc = t.map .str ∧ e = [some (.int c), some (.int b), some (.int many), some (.int sorts), some (.str (Str.ofString "abcdefghijklmnopqrstuvwxyz")), some (.int off), none] ∧ Tx t ∧ t.length = i)
    [] [some (.int c), some (.int b), some (.int many), some (.int sorts), some (.str (Str.ofString "abcdefghijklmnopqrstuvwxyz")), some (.int off), none] ⟨[], rfl, rfl, (fun _ hx => by cases hx), rfl⟩ (by rw [rngD_len]; show 0 + many ≤ 100000; omega)
    (fun i d acc e hd hi => by
      obtain ⟨t, rfl, rfl, q1, q2⟩ := hi
      obtain ⟨hi, rfl⟩ := rng0_get hd
      obtain ⟨r, io, b1, b2⟩ := digit_ok c (k := b + 1 + i) (by omega) hs
      obtain ⟨x, c1, c2⟩ := letter_at (r := (off + r) % 26) (Nat.mod_lt _ (by decide))
      refine ⟨_, _, true, rfl, rfl, fun _ => ⟨.str x, [some (.int c), some (.int b), some (.int many), some (.int sorts), some (.str (Str.ofString "abcdefghijklmnopqrstuvwxyz")), some (.int off), some (.int i)], ?_, t ++ [x], by simp, rfl, q1.append (fun y hy => by rw [List.mem_singleton.mp hy]; exact c2), by simp [q2]⟩, fun h => by cases h⟩
      have b1 : F__law_digit [.int c, .int ((b : Int) + 1 + (i : Int)), .int sorts] = .ok (.int r) io := b1
      have c1 : gIx (.str (Str.ofString "abcdefghijklmnopqrstuvwxyz")) (.int (((off : Int) + (r : Int)) % 26)) = some (.str x) := c1
      simp [b1, c1, -gIx_s])
  rw [rngD_len] at q2
  refine ⟨t, .int c, ?_, q1, q2⟩
  simp only [F__law_word_v2, r_runF, B__law_word_v2]
  simp [a1, hs', h1, List.all_map]
end Ov
namespace Ov
open PySem (Str PyData)
open MV
end Ov
namespace Ov
open PySem (Str PyData)
open MV
end Ov
namespace Ov
open PySem (Str)
open MV
def reach (w : Nat) : Nat → List Nat → Nat
  | r, [] => r
  | r, p :: L => if p ≤ r then reach w (p + w) L else reach w r L
abbrev Srt (l : List Nat) : Prop := l.Pairwise (· < ·)
theorem reach_max (w : Nat) : ∀ (L : List Nat) (r : Nat), Srt L → (∀ p ∈ L, r ≤ p + w) → L.foldl (fun r p => if p ≤ r then max r (p + w) else r) r = reach w r L
  | [], r, _, _ => rfl
  | p :: L, r, hs, hr => by
    rw [List.foldl_cons, reach]
    have hs := List.pairwise_cons.mp hs
    have h1 := hr p List.mem_cons_self
    by_cases h : p ≤ r
    · rw [if_pos h, if_pos h, Nat.max_eq_right h1, reach_max w L _ hs.2 fun q hq => by have := hs.1 q hq; omega]
    · rw [if_neg h, if_neg h, reach_max w L _ hs.2 fun q hq => hr q (List.mem_cons_of_mem _ hq)]
theorem srt_range (n : Nat) : Srt (List.range n) := List.pairwise_lt_range
theorem srt_filter {l : List Nat} (p : Nat → Bool) (h : Srt l) : Srt (l.filter p) := h.filter p
theorem srt_lies (t w : List Str) : Srt (lies t w) := srt_filter _ (srt_range _)
end Ov
namespace Ov
open PySem (Str)
open MV
end Ov
namespace Ov
open PySem (Str)
open MV
theorem need_text_val {t : List Str} (ht : Tx t) (h0 : t ≠ []) : F_need_text [dT t] = .ok .non (dT t) := by
  simp only [F_need_text, r_runF, B_need_text]
  simp [hsz0, gEq_nT ht.ok, h0]
theorem need_both_val {t w : List Str} (ht : Tx t) (hw : Tx w) (ht0 : t ≠ []) (h0 : w ≠ []) (hl : t.length ≤ 1000) (hl2 : w.length ≤ 1000) : F_need_both [dT t, dT w] = .ok .non (dT t) := by
  have hL : t.length + w.length ≤ LIM := by show _ ≤ 100000; omega
  have hn := need_signs_val (ht.append hw) (by rw [List.length_append]; exact hL)
  have hn : F_need_signs [.lst (t.map D.str ++ w.map D.str)] = .ok .non (dT (t ++ w)) := by rw [← List.map_append]; exact hn
  simp only [F_need_both, r_runF, B_need_both]
  simp [need_word_val hw h0, hL, hn, need_text_val ht ht0]
theorem max_val {r p : Nat} : gMax2 [.int (r : Int), .int (p : Int)] = some (.int ((max r p : Nat) : Int)) := by
  rw [gMax2_i]
  by_cases h : (p : Int) > (r : Int)
  · rw [if_pos h, Nat.max_eq_right (by omega)]
  · rw [if_neg h, Nat.max_eq_left (by omega)]
theorem first_bare_val {w n : Nat} {L : List Nat} (hs : Srt L) : F_first_bare [.int (w : Int), dN L, .int (n : Int)] = .ok (if reach w 0 L < n then .int (reach w 0 L : Nat) else .non) (.int w) := by
  obtain ⟨e', h2, x4, rfl⟩ := for_fold (tg := tgN 4) (b := B_first_bare_l1) (φ := fun k : Nat => D.int (k : Int)) (fun (r : Nat) e => ∃ x4, e = [some (.int (w : Int)), some (dN L), some (.int (n : Int)), some (.int (r : Int)), x4]) (fun r p => if p ≤ r then max r (p + w) else r) L 0 [some (.int (w : Int)), some (dN L), some (.int (n : Int)), some (.int 0), none] ⟨none, rfl⟩
    (fun r p e hp he => by
      obtain ⟨x4, rfl⟩ := he
      by_cases c : p ≤ r
      · refine ⟨_, [some (.int (w : Int)), some (dN L), some (.int (n : Int)), some (.int ((max r (p + w) : Nat) : Int)), some (.int p)], .nx, rfl, ?_, .inl rfl, some (.int p), by rw [if_pos c]⟩
        have hm : gMax2 [.int (r : Int), .int ((p : Int) + (w : Int))] = some (.int ((max r (p + w) : Nat) : Int)) := by
          rw [show ((p : Int) + (w : Int)) = ((p + w : Nat) : Int) by omega]; exact max_val
        simp [B_first_bare_l1, c, hm, -gMax2_i]
      · refine ⟨_, [some (.int (w : Int)), some (dN L), some (.int (n : Int)), some (.int r), some (.int p)], .nx, rfl, ?_, .inl rfl, some (.int p), by rw [if_neg c]⟩
        simp [B_first_bare_l1, c])
  rw [reach_max w L 0 hs fun p _ => Nat.zero_le _] at h2
  generalize reach w 0 L = rr at h2 ⊢
  simp only [F_first_bare, r_runF, B_first_bare]
  by_cases c : rr < n
  · simp [h2, c]
  · simp [h2, c]
theorem isN_int {i : Int} : gIsN (.int i) .non = some (.bl false) := rfl
theorem isN_non : gIsN .non .non = some (.bl true) := rfl
theorem covered_val {t w : List Str} (ht : Tx t) (hw : Tx w) (ht0 : t ≠ []) (h0 : w ≠ []) (hl : t.length ≤ 900) (hl2 : w.length ≤ 900) : F_covered [dT t, dT w] = .ok (if reach w.length 0 (lies t w) < t.length then .tup [.str (Str.ofString "bare"), .int (reach w.length 0 (lies t w) : Nat)] else .tup [.str (Str.ofString "covers"), dN (lies t w)]) (dT t) := by
  have hsz : (2 : Nat) ≤ PySem.sizeLine := by decide
  have hb := first_bare_val (w := w.length) (n := t.length) (srt_lies t w)
  simp only [F_covered, r_runF, B_covered]
  by_cases c : reach w.length 0 (lies t w) < t.length
  · rw [if_pos c] at hb ⊢
    simp [need_both_val ht hw ht0 h0 (by omega) (by omega), lies_at_val ht hw h0 (by omega) (by omega), hb, isN_int, hsz]
  · rw [if_neg c] at hb ⊢
    simp [need_both_val ht hw ht0 h0 (by omega) (by omega), lies_at_val ht hw h0 (by omega) (by omega), hb, isN_non, hsz]
end Ov
namespace Ov
open PySem (Str PyData)
open MV
def topL (p : Nat → Bool) : Nat → Nat
  | 0 => 0
  | n + 1 => if p (n + 1) then n + 1 else topL p n
def haB (t w : List Str) (l : Nat) : Bool := decide (w.drop (w.length - l) = t.take l)
def hbB (t w : List Str) (l : Nat) : Bool := decide (w.take l = t.drop (t.length - l))
def ha (t w : List Str) : Nat := topL (haB t w) (min t.length (w.length - 1))
def hb (t w : List Str) : Nat := topL (hbB t w) (min t.length (w.length - 1))
section
variable {t w : List Str}
end
def pc (t : List Str) (l p : Nat) : List Str := (t.drop p).take l
end Ov
namespace Ov
open PySem (Str PyData)
open MV
theorem depth_strs : ∀ a : List Str, PyData.depthAll (a.map PyData.str) = 0
  | [] => by simp [PyData.depthAll]
  | x :: a => by rw [List.map_cons, PyData.depthAll, depth_strs a]; simp [PyData.depth]
mutual
theorem eqv_eq : ∀ (p q : PyData), PySem.W.alike p q = true → PyData.eqv p q = true → p = q
  | .none, q, h, e => by cases q <;> first | rfl | (simp [PySem.W.alike] at h)
  | .bool a, q, h, e => by cases q <;> first | (exfalso; simp [PySem.W.alike] at h; done) | (simp [PyData.eqv] at e; rw [e])
  | .int a, q, h, e => by cases q <;> first | (exfalso; simp [PySem.W.alike] at h; done) | (simp [PyData.eqv] at e; rw [e])
  | .str a, q, h, e => by cases q <;> first | (exfalso; simp [PySem.W.alike] at h; done) | (simp [PyData.eqv] at e; rw [e])
  | .list xs, q, h, e => by
    cases q with
    | list ys =>
      rw [PySem.W.alike] at h
      rw [PyData.eqv] at e
      rw [eqvAll_eq xs ys h e]
    | _ => simp [PySem.W.alike] at h
  | .tuple xs, q, h, e => by
    cases q with
    | tuple ys =>
      rw [PySem.W.alike] at h
      rw [PyData.eqv] at e
      rw [eqvAll_eq xs ys h e]
    | _ => simp [PySem.W.alike] at h
  | .dict _, q, h, e => by cases q <;> simp [PySem.W.alike] at h
theorem eqvAll_eq : ∀ (p q : List PyData), PySem.W.alikeAll p q = true → PyData.eqvAll p q = true → p = q
  | [], [], _, _ => rfl
  | [], _ :: _, _, e => by simp [PyData.eqvAll] at e
  | _ :: _, [], _, e => by simp [PyData.eqvAll] at e
  | x :: xs, y :: ys, h, e => by
    rw [PySem.W.alikeAll, Bool.and_eq_true] at h
    rw [PyData.eqvAll, Bool.and_eq_true] at e
    rw [eqv_eq x y h.1 e.1, eqvAll_eq xs ys h.2 e.2]
end
section
variable {t w : List Str}
end
end Ov
namespace Ov
open PySem (Str PyData)
open MV
theorem kind4_word : F__law_kind_v4 [.exc (Str.ofString "NoWord")] = .ok (.str (Str.ofString "word")) (.exc (Str.ofString "NoWord")) := by rfl
theorem kind4_sign : F__law_kind_v4 [.exc (Str.ofString "NoSign")] = .ok (.str (Str.ofString "sign")) (.exc (Str.ofString "NoSign")) := by rfl
theorem kind4_text : F__law_kind_v4 [.exc (Str.ofString "NoText")] = .ok (.str (Str.ofString "text")) (.exc (Str.ofString "NoText")) := by rfl
theorem kind4_cover : F__law_kind_v4 [.exc (Str.ofString "NoCover")] = .ok (.str (Str.ofString "cover")) (.exc (Str.ofString "NoCover")) := by rfl
theorem kind4_many : F__law_kind_v4 [.exc (Str.ofString "TooMany")] = .ok (.str (Str.ofString "many")) (.exc (Str.ofString "TooMany")) := by rfl
abbrev xs21 : List Str := [(Str.ofString "NoWord"), (Str.ofString "NoSign"), (Str.ofString "NoText"), (Str.ofString "NoCover"), (Str.ofString "TooMany")]
inductive Nm : Str → Str → Prop
  | word : Nm (Str.ofString "NoWord") (Str.ofString "word")
  | sign : Nm (Str.ofString "NoSign") (Str.ofString "sign")
  | text : Nm (Str.ofString "NoText") (Str.ofString "text")
  | cover : Nm (Str.ofString "NoCover") (Str.ofString "cover")
  | many : Nm (Str.ofString "TooMany") (Str.ofString "many")
theorem Nm.kind {c n : Str} (h : Nm c n) : F__law_kind_v4 [.exc c] = .ok (.str n) (.exc c) := by
  cases h
  · exact kind4_word
  · exact kind4_sign
  · exact kind4_text
  · exact kind4_cover
  · exact kind4_many
theorem Nm.mem {c n : Str} (h : Nm c n) : c ∈ xs21 := by
  cases h <;> simp [xs21]
theorem Gd.filter {t : List Str} (h : Gd t) (p : Str → Bool) : Gd (t.filter p) := fun x hx => h x (List.mem_filter.mp hx).1
theorem Gd.take {t : List Str} (h : Gd t) (k : Nat) : Gd (t.take k) := fun x hx => h x (List.mem_of_mem_take hx)
theorem Gd.drop {t : List Str} (h : Gd t) (k : Nat) : Gd (t.drop k) := fun x hx => h x (List.mem_of_mem_drop hx)
end Ov
namespace Ov
open PySem (Str)
open MV
def Oc (t : List Str) (s p : Nat) : Prop := ∀ j, j < s → t[p + j]? = t[j]?
instance (t : List Str) (s p : Nat) : Decidable (Oc t s p) := Nat.decidableBallLT s fun j _ => t[p + j]? = t[j]?
def Cvr (t : List Str) (s e : Nat) : Prop := 1 ≤ s ∧ s ≤ e ∧ e ≤ t.length ∧ ∀ i, i < e → ∃ p, p ≤ i ∧ i < p + s ∧ p + s ≤ e ∧ Oc t s p
theorem Cvr.suffix {t : List Str} {s e : Nat} (h : Cvr t s e) : Oc t s (e - s) := by
  obtain ⟨h1, h2, h3, h4⟩ := h
  obtain ⟨p, a1, a2, a3, a4⟩ := h4 (e - 1) (by omega)
  rw [show e - s = p by omega]; exact a4
theorem Cvr.trans {t : List Str} {s g e : Nat} (h : Cvr t s g) (h2 : Cvr t g e) : Cvr t s e := by
  obtain ⟨a1, a2, a3, a4⟩ := h
  obtain ⟨b1, b2, b3, b4⟩ := h2
  refine ⟨a1, by omega, b3, fun i hi => ?_⟩
  obtain ⟨p, c1, c2, c3, c4⟩ := b4 i hi
  obtain ⟨q, d1, d2, d3, d4⟩ := a4 (i - p) (by omega)
  refine ⟨p + q, by omega, by omega, by omega, fun j hj => ?_⟩
  rw [Nat.add_assoc, c4 (q + j) (by omega), d4 j hj]
theorem Cvr.self {t : List Str} {e : Nat} (h1 : 1 ≤ e) (h2 : e ≤ t.length) : Cvr t e e := ⟨h1, Nat.le_refl _, h2, fun i hi => ⟨0, by omega, by omega, by omega, fun j hj => by rw [Nat.zero_add]⟩⟩
theorem Cvr.isB {t : List Str} {s e : Nat} (h : Cvr t s e) (hl : s < e) : isB t e s := by
  have hs := h.suffix
  exact ⟨hl, h.2.2.1, fun j hj => (hs j hj).symm⟩
end Ov
namespace Ov
open PySem (Str)
open MV
def ov (w : Nat) (L : List Nat) (i : Nat) : Bool := L.any fun p => decide (p ≤ i) && decide (i < p + w)
end Ov
namespace Ov
open PySem (Str PyData)
open MV
end Ov
namespace Ov
open PySem (Str PyData)
open MV
def bls (f : Bool → Bool) (R : List Bool) : List D := R.map fun b => D.bl (f b)
@[simp] theorem bls_len (f : Bool → Bool) (R : List Bool) : (bls f R).length = R.length := by unfold bls; simp
end Ov
namespace Ov
open PySem (Str PyData)
open MV
end Ov
namespace Ov
open PySem (Str PyData)
open MV
end Ov
namespace Ov
open PySem (Str PyData)
open MV
def c4 : List Str := [Str.ofString "NoWord", Str.ofString "NoSign", Str.ofString "NoText", Str.ofString "TooMany"]
end Ov
namespace Ov
open PySem (Str PyData)
open MV
theorem inD_str (x : Str) (l : List Str) : inD (.str x) (l.map D.str) = decide (x ∈ l) := by
  show L2.inV (.str x) ((l.map D.str).filterMap D.toV) = _
  have : (l.map D.str).filterMap D.toV = l.map L2.V.str := by
    induction l with
    | nil => rfl
    | cons a r ih => simp only [List.map_cons, List.filterMap_cons, D.toV, ih]
  rw [this]
  unfold L2.inV
  induction l with
  | nil => rfl
  | cons a r ih =>
    have ih := ih (by
      have := this
      simp only [List.map_cons, List.filterMap_cons, D.toV] at this
      exact (List.cons.inj this).2)
    rw [List.map_cons, List.any_cons, ih, Bool.eq_iff_iff]
    show ((a == x) || decide (x ∈ r)) = true ↔ _
    rw [Bool.or_eq_true, beq_iff_eq, decide_eq_true_iff, decide_eq_true_iff, List.mem_cons]
    exact ⟨fun h => h.imp Eq.symm id, fun h => h.imp Eq.symm id⟩
abbrev marksS : Str := Str.ofString " !\"#$&'()*+,-./0123456789:;<=>?@ABCDEFGHIJKLMNOPQRSTUVWXYZ[\\]^_`{|}~\n"
def oddL : List Str := [Str.ofString "", Str.ofString "ab", Str.ofString "aa", Str.ofString "Aa"] ++ marksS.cps.toList.map fun c => ⟨#[c]⟩
theorem oddL_all : oddL.all (fun x => PyData.strOk x && decide (x.length ≤ 100) && !isSg x) = true := by decide +kernel
theorem oddL_mem {x : Str} (h : x ∈ oddL) : okS x ∧ x.length ≤ 100 ∧ isSg x = false := by
  have := List.all_eq_true.mp oddL_all x h
  simp only [Bool.and_eq_true, decide_eq_true_iff, Bool.not_eq_true'] at this
  exact ⟨this.1.1, this.1.2, this.2⟩
def Wd (t : List Str) : Prop := ∀ x ∈ t, Sg x ∨ x ∈ oddL
theorem Wd.odd {t : List Str} (h : Wd t) {x : Str} (hx : x ∈ t) : decide (x ∈ oddL) = !isSg x := by
  rcases h x hx with q | q
  · rw [isSg_iff.mpr q]
    exact decide_eq_false fun z => by have := (oddL_mem z).2.2; rw [isSg_iff.mpr q] at this; cases this
  · rw [(oddL_mem q).2.2]; exact decide_eq_true q
theorem Wd.set {t : List Str} (h : Wd t) {x : Str} (hx : x ∈ oddL) (k : Nat) : Wd (t.set k x) := fun y hy => by
  rcases List.mem_or_eq_of_mem_set hy with hy | hy
  · exact h y hy
  · rw [hy]; exact .inr hx
end Ov
namespace MV
open PySem (Str)
def dskO (o : Option (Option D)) : Option (D × D) := match o with
  | some (some (.tup [t, w])) => some (t, w)
  | _ => none
@[simp] theorem dskO_some {t w : D} : dskO (some (some (.tup [t, w]))) = some (t, w) := (rfl)
def rdk (i : Nat) (r : FR) (e : PEnv) : Res D := match r with
  | .ok d (.tup [t, w]) => if t.flat && w.flat then .ok d (e.set i (some (.tup [t, w]))) else .stuck
  | .ex x (.tup [t, w]) => if t.flat && w.flat then .ex x (e.set i (some (.tup [t, w]))) else .stuck
  | _ => .stuck
section
variable {i : Nat} {e : PEnv} {F : List D → FR} {a : M (List D)} {f : M D} {k : Bool} {d t w : D} {x : Str}
@[simp] theorem rdk_ok : rdk i (.ok d (.tup [t, w])) e = if t.flat && w.flat then .ok d (e.set i (some (.tup [t, w]))) else .stuck := (rfl)
@[simp] theorem rdk_ex : rdk i (.ex x (.tup [t, w])) e = if t.flat && w.flat then .ex x (e.set i (some (.tup [t, w]))) else .stuck := (rfl)
theorem dskAt_O : dskAt i e = dskO (e[i]?) := by
  unfold dskAt dskO
  rfl
@[simp] theorem r_eFld : eFld i k e = ro (dskO (e[i]?)) fun tw => .ok (if k then tw.2 else tw.1) e := by
  unfold eFld
  rw [dskAt_O]
  cases dskO (e[i]?) with
  | none => rfl
  | some tw => rfl
@[simp] theorem r_sMkD : sMkD i e = .ok .nx (e.set i (some (.tup [.non, .non]))) := (rfl)
@[simp] theorem r_sFldS : sFldS i k f e = rb (f e) fun d e => ro (dskO (e[i]?)) fun tw => if d.flat then .ok .nx (e.set i (some (.tup (if k then [tw.1, d] else [d, tw.2])))) else .stuck := by
  show rb (f e) _ = _
  congr 1; funext d e
  rw [dskAt_O]
  cases dskO (e[i]?) with
  | none => rfl
  | some tw => rfl
@[simp] theorem r_eCallD : eCallD F i a e = ro (dskO (e[i]?)) fun _ => rb (a e) fun ds e => ro (dskO (e[i]?)) fun tw => rdk i (F (.tup [tw.1, tw.2] :: ds)) e := by
  unfold eCallD
  rw [dskAt_O]
  cases dskO (e[i]?) with
  | none => rfl
  | some tw =>
    show rb (a e) _ = rb (a e) _
    congr 1; funext ds e
    rw [dskAt_O]
    cases dskO (e[i]?) with
    | none => rfl
    | some tw =>
      show (match F (.tup [tw.1, tw.2] :: ds) with
        | .ok d (.tup [t, w]) => if t.flat && w.flat then .ok d (e.set i (some (.tup [t, w]))) else .stuck
        | .ex x (.tup [t, w]) => if t.flat && w.flat then .ex x (e.set i (some (.tup [t, w]))) else .stuck
        | _ => .stuck) = rdk i (F (.tup [tw.1, tw.2] :: ds)) e
      unfold rdk
      rfl
end
end MV
namespace Ov
open PySem (Str PyData)
open MV
def mkS (l : List Nat) : Str := ⟨l.toArray⟩
theorem mkS_cps (z : Str) : mkS z.cps.toList = z := rfl
@[simp] theorem mkS_list (l : List Nat) : (mkS l).cps.toList = l := rfl
@[simp] theorem mkS_len (l : List Nat) : (mkS l).length = l.length := by show l.toArray.size = _; simp
theorem mkS_inj {a b : List Nat} : mkS a = mkS b ↔ a = b := ⟨fun h => by have := congrArg (fun z : Str => z.cps.toList) h; exact this, fun h => by rw [h]⟩
theorem cut_mkS (l : List Nat) (lo hi : Option Int) : L2.cutS (mkS l) lo hi = mkS (cutA l lo hi) := by
  have h := cps_cut (mkS l) lo hi
  rw [mkS_list] at h
  rw [← h, mkS_cps]
theorem cutA_5 (l : List Nat) : cutA l none (some 5) = l.take 5 := cutA_to l 5
theorem cutA_6 (l : List Nat) : cutA l none (some 6) = l.take 6 := cutA_to l 6
theorem cutA_5' (l : List Nat) : cutA l (some 5) none = l.drop 5 := cutA_from l 5
theorem cutA_6' (l : List Nat) : cutA l (some 6) none = l.drop 6 := cutA_from l 6
def isLc (c : Nat) : Bool := decide (97 ≤ c) && decide (c ≤ 122)
def isFg (c : Nat) : Bool := decide (48 ≤ c) && decide (c ≤ 57)
def aLl (l : List Nat) : Bool := !decide (l = []) && decide (l.filter (fun c => !isLc c) = [])
def iLl (l : List Nat) : Bool := decide (1 ≤ l.length) && decide (l.length ≤ 3) && decide (l.filter (fun c => !isFg c) = []) && (!decide (l.take 1 = [48]) || decide (l = [48]))
theorem figures_in (c : Nat) : decide (c ∈ (Str.ofString "0123456789").cps.toList) = isFg c := by
  have h1 : (Str.ofString "0123456789").cps.toList = (List.range 10).map (48 + ·) := by decide +kernel
  unfold isFg
  rw [h1]
  rw [Bool.eq_iff_iff, decide_eq_true_iff, Bool.and_eq_true, decide_eq_true_iff, decide_eq_true_iff, List.mem_map]
  constructor
  · rintro ⟨k, hk, rfl⟩
    rw [List.mem_range] at hk
    omega
  · rintro ⟨h2, h3⟩
    exact ⟨c - 48, by rw [List.mem_range]; omega, by omega⟩
def s1 (c : Nat) : Str := ⟨#[c]⟩
theorem strD_map (l : List Nat) : strD (mkS l) = (l.map s1).map D.str := by
  unfold strD
  rw [mkS_list, List.map_map]; rfl
theorem okS1 {c : Nat} (h : c ≤ 126) : okS (s1 c) := okS_of fun d hd => by
  have this : d ∈ [c] := hd
  rw [List.mem_singleton] at this
  omega
def AS (l : List Nat) : Prop := ∀ c ∈ l, c ≤ 126
instance {l : List Nat} : Decidable (AS l) := by unfold AS; infer_instance
theorem AS.take {l : List Nat} (h : AS l) (k : Nat) : AS (l.take k) := fun c hc => h c (List.mem_of_mem_take hc)
theorem AS.drop {l : List Nat} (h : AS l) (k : Nat) : AS (l.drop k) := fun c hc => h c (List.mem_of_mem_drop hc)
theorem AS.append {l k : List Nat} (h : AS l) (h2 : AS k) : AS (l ++ k) := fun c hc => (List.mem_append.mp hc).elim (h c) (h2 c)
theorem lc_signs {t : M Bool} {e : PEnv} {j : Nat} {l : List Nat} {p : Nat → Bool} (hl : l.length ≤ 1000) (he : e[j]? = some none) (ht : ∀ c, t (e.set j (some (.str (s1 c)))) = .ok (p c) (e.set j (some (.str (s1 c))))) : lcGo [j] (tgN j) t (eV j) (strD (mkS l)) [] e = .ok (((l.filter p).map s1).map D.str) e := by
  have hj : j < e.length := (List.getElem?_eq_some_iff.mp he).1
  have back : ∀ d : Option D, (e.set j d).set j none = e := fun d => by
    rw [List.set_set]
    apply List.ext_getElem?
    intro m
    by_cases c : j = m
    · subst c; rw [List.getElem?_set_self hj, he]
    · rw [List.getElem?_set_ne c]
  have h1 := lc_pure (is := [j]) (tg := tgN j) (t := t) (fe := eV j) (e := e) (φ := fun c => D.str (s1 c)) (p := p) (g := fun c => D.str (s1 c)) l [] (by simp; show _ ≤ 100000; omega)
    (fun c hc => ⟨e.set j (some (.str (s1 c))), e.set j (some (.str (s1 c))), rfl, ht c, fun _ => ⟨e.set j (some (.str (s1 c))), by simp [hj], back _⟩, fun _ => back _⟩)
  rw [List.nil_append] at h1
  rw [strD_map, List.map_map, List.map_map]
  exact h1
theorem notIn_lc (c : Nat) : gNotIn (.str (s1 c)) (.str (Str.ofString "abcdefghijklmnopqrstuvwxyz")) = some (.bl (!isLc c)) := by
  unfold isLc
  rw [← letters_in]
  rfl
theorem notIn_fg (c : Nat) : gNotIn (.str (s1 c)) (.str (Str.ofString "0123456789")) = some (.bl (!isFg c)) := by
  rw [← figures_in]
  rfl
theorem ok_signs {l : List Nat} (h : AS l) (p : Nat → Bool) : ∀ x ∈ (l.filter p).map s1, okS x := fun x hx => by
  obtain ⟨c, hc, rfl⟩ := List.mem_map.mp hx
  exact okS1 (h c (List.mem_filter.mp hc).1)
theorem dec_map {α β : Type} [DecidableEq α] [DecidableEq β] (f : α → β) (L : List α) : decide (L.map f = []) = decide (L = []) := by
  cases L <;> rfl
theorem are_letters_val {l : List Nat} (h : AS l) (hl : l.length ≤ 1000) : F_are_letters [.str (mkS l)] = .ok (.bl (aLl l)) (.str (mkS l)) := by
  have h1 := lc_signs (t := tB (e2 gNotIn (eV 1) (eC (.str (Str.ofString "abcdefghijklmnopqrstuvwxyz"))))) (e := [some (.str (mkS l)), none]) (j := 1) (p := fun c => !isLc c) hl rfl (fun c => by
    have := notIn_lc c
    generalize Str.ofString "abcdefghijklmnopqrstuvwxyz" = A at this
    simp [this])
  have n1 := gEq_nT (ok_signs h fun c => !isLc c)
  have n2 : gNe (.str (mkS l)) (.str (Str.ofString "")) = some (.bl (!decide (l = []))) := by
    show some (D.bl (!decide (mkS l = Str.ofString ""))) = _
    rw [show Str.ofString "" = mkS [] from rfl, decide_eq_decide.mpr mkS_inj]
  simp only [F_are_letters, r_runF, B_are_letters]
  unfold aLl
  generalize Str.ofString "" = A at n2
  generalize Str.ofString "abcdefghijklmnopqrstuvwxyz" = B at h1
  rw [dec_map] at n1
  obtain ⟨FF, hFF⟩ : ∃ FF, FF = (l.filter fun c => !isLc c).map s1 := ⟨_, rfl⟩
  rw [← hFF] at h1 n1
  cases q : decide (l = []) with
  | true => rw [q] at n2; simp [n2]
  | false => rw [q] at n2; simp [n2, h1, n1, hsz0]
theorem head_ix {l : List Nat} (hl : l.length ≤ 1000) (h0 : 1 ≤ l.length) : ∃ c, gIx (.str (mkS l)) (.int 0) = some (.str (s1 c)) ∧ l.take 1 = [c] := by
  cases l with
  | nil => simp at h0
  | cons c r =>
    refine ⟨c, ?_, rfl⟩
    show (if (mkS (c :: r)).length ≤ LIM then (L2.atI (mkS (c :: r)).cps.toList 0).map (fun c => D.str ⟨#[c]⟩) else none) = _
    rw [if_pos (by rw [mkS_len]; show _ ≤ 100000; omega), mkS_list, atI0]; rfl
theorem is_length_val {l : List Nat} (h : AS l) (hl : l.length ≤ 1000) : F_is_length [.str (mkS l)] = .ok (.bl (iLl l)) (.str (mkS l)) := by
  have h1 := lc_signs (t := tB (e2 gNotIn (eV 1) (eC (.str (Str.ofString "0123456789"))))) (e := [some (.str (mkS l)), none]) (j := 1) (p := fun c => !isFg c) hl rfl (fun c => by
    have := notIn_fg c
    generalize Str.ofString "0123456789" = A at this
    simp [this])
  have n1 := gNe_nT (ok_signs h fun c => !isFg c)
  rw [dec_map] at n1
  have gl : gLen [.str (mkS l)] = some (.int (l.length : Int)) := by
    show (if (mkS l).length ≤ LIM then some (D.int ((mkS l).length : Int)) else none) = _
    rw [mkS_len, if_pos (by show _ ≤ 100000; omega)]
  have n3 : gEq (.str (mkS l)) (.str (Str.ofString "0")) = some (.bl (decide (l = [48]))) := by
    show some (D.bl (decide (mkS l = Str.ofString "0"))) = _
    rw [show Str.ofString "0" = mkS [48] from rfl, decide_eq_decide.mpr mkS_inj]
  simp only [F_is_length, r_runF, B_is_length]
  unfold iLl
  by_cases c1 : 1 ≤ l.length
  · obtain ⟨c, hc, ht⟩ := head_ix hl c1
    have n4 : gNe (.str (s1 c)) (.str (Str.ofString "0")) = some (.bl (!decide (l.take 1 = [48]))) := by
      rw [ht]
      show some (D.bl (!decide (mkS [c] = Str.ofString "0"))) = _
      rw [show Str.ofString "0" = mkS [48] from rfl, decide_eq_decide.mpr mkS_inj]
    obtain ⟨Z, hZ⟩ : ∃ Z, Z = Str.ofString "0" := ⟨_, rfl⟩
    rw [← hZ] at n3 n4 ⊢
    obtain ⟨B, hB⟩ : ∃ B, B = Str.ofString "0123456789" := ⟨_, rfl⟩
    rw [← hB] at h1 ⊢
    obtain ⟨FF, hFF⟩ : ∃ FF, FF = (l.filter fun c => !isFg c).map s1 := ⟨_, rfl⟩
    rw [← hFF] at h1 n1
    have c1' : (1 : Int) ≤ (l.length : Int) := by omega
    by_cases c3 : l.length ≤ 3
    · have c3' : (l.length : Int) ≤ 3 := by omega
      cases q : decide ((l.filter fun c => !isFg c) = []) with
      | false => rw [q] at n1; simp [gl, c1, c1', c3, c3', h1, n1, hsz0]
      | true =>
        rw [q] at n1
        cases q2 : decide (l.take 1 = [48]) with
        | false => rw [q2] at n4; simp [gl, c1, c1', c3, c3', h1, n1, hsz0, hc, n4]
        | true => rw [q2] at n4; simp [gl, c1, c1', c3, c3', h1, n1, hsz0, hc, n4, n3]
    · have c3' : ¬ (l.length : Int) ≤ 3 := by omega
      simp [gl, c1, c1', c3, c3']
  · have c1' : ¬ (1 : Int) ≤ (l.length : Int) := by omega
    simp [gl, c1, c1']
abbrev cT : List Nat := [116, 101, 120, 116, 32]
abbrev cW : List Nat := [119, 111, 114, 100, 32]
abbrev cS : List Nat := [116, 101, 120, 116, 115, 32]
def words : List (List Nat) := ["covers", "shortest", "lies", "laid", "fewest", "wrong", "ends"].map fun z => (Str.ofString z).cps.toList
def nf (l : List Nat) : Bool := (!decide (l.take 5 = cT) || (!decide (l.drop 5 = [45]) && !aLl (l.drop 5))) && (!decide (l.take 5 = cW) || !aLl (l.drop 5)) && (!decide (l.take 6 = cS) || !iLl (l.drop 6)) && !decide (l ∈ words)
def nfD : D → Bool
  | .str z => nf z.cps.toList && decide (AS z.cps.toList) && decide (z.cps.toList.length ≤ 1000)
  | .non => true
  | .int _ => true
  | .bl _ => true
  | .lst _ => true
  | .tup _ => true
  | .dic _ => true
  | _ => false
theorem eq_S {l m : List Nat} {z : Str} (hz : z = mkS m) : gEq (.str (mkS l)) (.str z) = some (.bl (decide (l = m))) := by
  subst hz
  show some (D.bl (decide (mkS l = mkS m))) = _
  rw [decide_eq_decide.mpr mkS_inj]
theorem say_noS {l : List Nat} (h : nf l = true) (ha : AS l) (hl : l.length ≤ 1000) {t w : D} : F_Desk_say [.tup [t, w], .str (mkS l)] = .ex (Str.ofString "NoForm") (.tup [t, w]) := by
  unfold nf at h
  rw [Bool.and_eq_true, Bool.and_eq_true, Bool.and_eq_true] at h
  obtain ⟨⟨⟨h1, h2⟩, h3⟩, h4⟩ := h
  have hL : l.length ≤ LIM := by show _ ≤ 100000; omega
  have q1 : L2.cutS (mkS l) none (some 5) = mkS (l.take 5) := by rw [cut_mkS, cutA_5]
  have q2 : L2.cutS (mkS l) none (some 6) = mkS (l.take 6) := by rw [cut_mkS, cutA_6]
  have q3 : L2.cutS (mkS l) (some 5) none = mkS (l.drop 5) := by rw [cut_mkS, cutA_5']
  have q4 : L2.cutS (mkS l) (some 6) none = mkS (l.drop 6) := by rw [cut_mkS, cutA_6']
  have e1 : gEq (.str (mkS (l.take 5))) (.str (Str.ofString "text ")) = some (.bl (decide (l.take 5 = cT))) := eq_S rfl
  have e2 : gEq (.str (mkS (l.take 5))) (.str (Str.ofString "word ")) = some (.bl (decide (l.take 5 = cW))) := eq_S rfl
  have e3 : gEq (.str (mkS (l.take 6))) (.str (Str.ofString "texts ")) = some (.bl (decide (l.take 6 = cS))) := eq_S rfl
  have e4 : gEq (.str (mkS (l.drop 5))) (.str (Str.ofString "-")) = some (.bl (decide (l.drop 5 = [45]))) := eq_S rfl
  have al := are_letters_val (ha.drop 5) (by rw [List.length_drop]; omega)
  have il := is_length_val (ha.drop 6) (by rw [List.length_drop]; omega)
  have nw : ∀ z : String, (Str.ofString z).cps.toList ∈ words → gEq (.str (mkS l)) (.str (Str.ofString z)) = some (.bl false) := fun z hz => by
    rw [eq_S (mkS_cps _).symm]
    rw [decide_eq_false (fun e => by rw [← e] at hz; rw [decide_eq_true hz] at h4; cases h4)]
  have w1 := nw "covers" (by decide +kernel)
  have w2 := nw "shortest" (by decide +kernel)
  have ni : gIn (.str (mkS l)) (.tup [.str (Str.ofString "lies"), .str (Str.ofString "laid"), .str (Str.ofString "fewest"), .str (Str.ofString "wrong"), .str (Str.ofString "ends")]) = some (.bl false) := by
    have hn : ∀ z : String, (Str.ofString z).cps.toList ∈ words → ¬ mkS l = Str.ofString z := fun z hz e => by
      have := congrArg (fun z : Str => z.cps.toList) e
      have this : l = (Str.ofString z).cps.toList := this
      rw [← this] at hz; rw [decide_eq_true hz] at h4; cases h4
    have m1 := hn "lies" (by decide +kernel)
    have m2 := hn "laid" (by decide +kernel)
    have m3 := hn "fewest" (by decide +kernel)
    have m4 := hn "wrong" (by decide +kernel)
    have m5 := hn "ends" (by decide +kernel)
    show some (D.bl (inD (.str (mkS l)) ([Str.ofString "lies", Str.ofString "laid", Str.ofString "fewest", Str.ofString "wrong", Str.ofString "ends"].map D.str))) = _
    rw [inD_str]
    generalize Str.ofString "lies" = z1 at *
    generalize Str.ofString "laid" = z2 at *
    generalize Str.ofString "fewest" = z3 at *
    generalize Str.ofString "wrong" = z4 at *
    generalize Str.ofString "ends" = z5 at *
    simp [m1, m2, m3, m4, m5]
  have z5 : ∀ n : Nat, n ≤ 10 → n ≤ PySem.sizeLine := fun n hn => Nat.le_trans hn (by decide)
  simp only [F_Desk_say, r_runF, B_Desk_say]
  generalize Str.ofString "text " = A1 at *
  generalize Str.ofString "word " = A2 at *
  generalize Str.ofString "texts " = A3 at *
  generalize Str.ofString "-" = A4 at *
  generalize Str.ofString "covers" = A5 at *
  generalize Str.ofString "shortest" = A6 at *
  generalize Str.ofString "lies" = A7 at *
  generalize Str.ofString "laid" = A8 at *
  generalize Str.ofString "fewest" = A9 at *
  generalize Str.ofString "wrong" = A10 at *
  generalize Str.ofString "ends" = A11 at *
  generalize Str.ofString "signs " = A12 at *
  generalize Str.ofString "NoForm" = A13 at *
  cases c1 : decide (l.take 5 = cT) with
  | true =>
    rw [c1] at e1 h1
    have h1 : (!decide (l.drop 5 = [45]) && !aLl (l.drop 5)) = true := h1
    rw [Bool.and_eq_true, Bool.not_eq_true', Bool.not_eq_true'] at h1
    rw [h1.1] at e4
    rw [h1.2] at al
    have c2 : decide (l.take 5 = cW) = false := decide_eq_false (by rw [of_decide_eq_true c1]; decide)
    rw [c2] at e2
    cases c3 : decide (l.take 6 = cS) with
    | false => rw [c3] at e3; simp [hL, q1, q2, q3, q4, e1, e2, e3, e4, al, w1, w2, ni, z5]
    | true =>
      rw [c3] at e3 h3
      have h3 : (!iLl (l.drop 6)) = true := h3
      rw [Bool.not_eq_true'] at h3
      rw [h3] at il
      simp [hL, q1, q2, q3, q4, e1, e2, e3, e4, al, il, w1, w2, ni, z5]
  | false =>
    rw [c1] at e1
    cases c2 : decide (l.take 5 = cW) with
    | false =>
      rw [c2] at e2
      cases c3 : decide (l.take 6 = cS) with
      | false => rw [c3] at e3; simp [hL, q1, q2, q3, q4, e1, e2, e3, w1, w2, ni, z5]
      | true =>
        rw [c3] at e3 h3
        have h3 : (!iLl (l.drop 6)) = true := h3
        rw [Bool.not_eq_true'] at h3
        rw [h3] at il
        simp [hL, q1, q2, q3, q4, e1, e2, e3, il, w1, w2, ni, z5]
    | true =>
      rw [c2] at e2 h2
      have h2 : (!aLl (l.drop 5)) = true := h2
      rw [Bool.not_eq_true'] at h2
      rw [h2] at al
      cases c3 : decide (l.take 6 = cS) with
      | false => rw [c3] at e3; simp [hL, q1, q2, q3, q4, e1, e2, e3, al, w1, w2, ni, z5]
      | true =>
        rw [c3] at e3 h3
        have h3 : (!iLl (l.drop 6)) = true := h3
        rw [Bool.not_eq_true'] at h3
        rw [h3] at il
        simp [hL, q1, q2, q3, q4, e1, e2, e3, al, il, w1, w2, ni, z5]
theorem say_no {d : D} (h : nfD d = true) {t w : D} : F_Desk_say [.tup [t, w], d] = .ex (Str.ofString "NoForm") (.tup [t, w]) := by
  cases d with
  | str z =>
    unfold nfD at h
    rw [Bool.and_eq_true, Bool.and_eq_true, decide_eq_true_iff, decide_eq_true_iff] at h
    rw [← mkS_cps z]
    exact say_noS h.1.1 h.1.2 h.2
  | dit _ => cases h
  | exc _ => cases h
  | _ => rfl
def fls (k : Nat) : D := .lst ((List.range 10).map fun j => .bl (decide (j = k)))
theorem said_no {d : D} (h : nfD d = true) {t w : D} (ht : t.flat = true) (hw : w.flat = true) : F__law_said_v8 [.tup [t, w], d] = .ok (fls 6) (.tup [t, w]) := by
  have h1 := say_no h (t := t) (w := w)
  have h2 : ∃ io, F__law_class [.exc (Str.ofString "NoForm")] = .ok (fls 6) io := ⟨_, rfl⟩
  obtain ⟨io, h2⟩ := h2
  have hm : Str.ofString "NoForm" ∈ [Str.ofString "NoWord", Str.ofString "NoSign", Str.ofString "NoText", Str.ofString "NoCover", Str.ofString "NoNumber", Str.ofString "NoForm", Str.ofString "NoneYet"] := by decide +kernel
  simp only [F__law_said_v8, r_runF, B__law_said_v8, B__law_said_v8_l1, B__law_said_v8_l2]
  generalize [Str.ofString "NoWord", Str.ofString "NoSign", Str.ofString "NoText", Str.ofString "NoCover", Str.ofString "NoNumber", Str.ofString "NoForm", Str.ofString "NoneYet"] = CS at *
  generalize Str.ofString "NoForm" = X at *
  generalize fls 6 = FF at *
  simp [sTryH, h1, ht, hw, hm, h2]
end Ov
namespace Ov
open PySem (Str PyData)
open MV
theorem cell_at_ok (ns : List Int) (k : Nat) : ∃ x io, F__law_cell_at [.lst (ns.map .int), .int (k : Int)] = .ok (.int x) io := by
  by_cases q : k < ns.length
  · have q' : (k : Int) < (ns.length : Int) := by omega
    have h1 : L2.atI (ns.map D.int) (k : Int) = some (.int ns[k]) := by rw [atI_eq, List.getElem?_map, List.getElem?_eq_getElem q]; rfl
    refine ⟨ns[k], .lst (ns.map .int), ?_⟩
    simp only [F__law_cell_at, r_runF, B__law_cell_at]
    simp [q, q', h1]
  · have q' : ¬ (k : Int) < (ns.length : Int) := by omega
    refine ⟨0, .lst (ns.map .int), ?_⟩
    simp only [F__law_cell_at, r_runF, B__law_cell_at]
    simp [q, q']
end Ov
namespace Ov
open PySem (Str PyData)
open MV
theorem mkS_app (a b : List Nat) : mkS a ++ mkS b = mkS (a ++ b) := by
  have h := cps_app (mkS a) (mkS b)
  rw [mkS_list, mkS_list] at h
  rw [← h, mkS_cps]
theorem join_cps : ∀ cs : List Nat, PySem.Txt.join (Str.ofString "") (cs.map s1) = mkS cs := by
  intro cs
  show PySem.Builtin.Str.glued (Str.ofString "") _ = _
  rw [PySem.StrLaws.glued_eq_join]
  induction cs with
  | nil => rfl
  | cons c r ih =>
    cases r with
    | nil => rfl
    | cons d r =>
      show s1 c ++ Str.ofString "" ++ Str.join (Str.ofString "") ((d :: r).map s1) = _
      rw [ih]
      show (mkS [c] ++ mkS []) ++ mkS (d :: r) = _
      rw [mkS_app, mkS_app]; rfl
theorem tx_cps {w : List Str} (h : Tx w) : ∃ cs : List Nat, w = cs.map s1 ∧ ∀ c ∈ cs, isLc c = true := by
  induction w with
  | nil => exact ⟨[], rfl, fun _ h => by cases h⟩
  | cons x r ih =>
    obtain ⟨cs, rfl, h2⟩ := ih fun y hy => h y (List.mem_cons_of_mem _ hy)
    obtain ⟨c, rfl, h3, h4⟩ := h x List.mem_cons_self
    refine ⟨c :: cs, rfl, fun d hd => ?_⟩
    rcases List.mem_cons.mp hd with rfl | hd
    · unfold isLc; rw [decide_eq_true h3, decide_eq_true h4]; rfl
    · exact h2 d hd
theorem asStrs_s1 (cs : List Nat) : asStrs ((cs.map s1).map D.str) = some (cs.map s1) := asStrs_map _
theorem gJoin_s1 {cs : List Nat} (h : cs.length ≤ 1000) : gJoin (.str (Str.ofString "")) [dT (cs.map s1)] = some (.str (mkS cs)) := by
  show (match asStrs ((cs.map s1).map D.str) with
    | some ys => if joinOk (Str.ofString "") ys then some (D.str (PySem.Txt.join (Str.ofString "") ys)) else none
    | none => none) = _
  rw [asStrs_s1]
  have : joinOk (Str.ofString "") (cs.map s1) = true := by
    unfold joinOk
    refine decide_eq_true ?_
    rw [List.map_map, List.length_map]
    have : (cs.map ((fun z : Str => z.length) ∘ s1)).sum = cs.length := by
      clear h
      induction cs with
      | nil => rfl
      | cons c r ih => rw [List.map_cons, List.sum_cons, ih, List.length_cons]; show 1 + _ = _; omega
    rw [this]
    show _ + _ * 0 ≤ 100000
    omega
  simp only [this, if_true, join_cps]
theorem aLl_no {l : List Nat} {c : Nat} (h : c ∈ l) (hc : isLc c = false) : aLl l = false := by
  have : ¬ l.filter (fun c => !isLc c) = [] := fun e => by
    have hm : c ∈ l.filter (fun c => !isLc c) := List.mem_filter.mpr ⟨h, by rw [hc]; rfl⟩
    rw [e] at hm; cases hm
  unfold aLl
  rw [decide_eq_false this, Bool.and_false]
theorem iLl_no {l : List Nat} {c : Nat} (h : c ∈ l) (hc : isFg c = false) : iLl l = false := by
  have : ¬ l.filter (fun c => !isFg c) = [] := fun e => by
    have hm : c ∈ l.filter (fun c => !isFg c) := List.mem_filter.mpr ⟨h, by rw [hc]; rfl⟩
    rw [e] at hm; cases hm
  unfold iLl
  rw [decide_eq_false this, Bool.and_false, Bool.false_and]
theorem words_lc : ∀ w ∈ words, ∀ c ∈ w, isLc c = true := by decide +kernel
theorem nf_of {l : List Nat} {c : Nat} (hm : c ∈ l) (hc : isLc c = false) (h1 : l.take 5 = cT → l.drop 5 ≠ [45] ∧ aLl (l.drop 5) = false) (h2 : l.take 5 = cW → aLl (l.drop 5) = false) (h3 : l.take 6 = cS → iLl (l.drop 6) = false) : nf l = true := by
  have h4 : l ∉ words := fun h => by rw [words_lc l h c hm] at hc; cases hc
  unfold nf
  rw [decide_eq_false h4]
  rw [Bool.and_eq_true, Bool.and_eq_true, Bool.and_eq_true]
  refine ⟨⟨⟨?_, ?_⟩, ?_⟩, rfl⟩
  · by_cases c1 : l.take 5 = cT
    · obtain ⟨a, b⟩ := h1 c1
      rw [decide_eq_true c1, decide_eq_false a, b]; rfl
    · rw [decide_eq_false c1]; rfl
  · by_cases c1 : l.take 5 = cW
    · rw [decide_eq_true c1, h2 c1]; rfl
    · rw [decide_eq_false c1]; rfl
  · by_cases c1 : l.take 6 = cS
    · rw [decide_eq_true c1, h3 c1]; rfl
    · rw [decide_eq_false c1]; rfl
def putIn (L : List Nat) (k c : Nat) : List Nat := L.take k ++ c :: L.drop k
theorem putIn_mem (L : List Nat) (k c : Nat) : c ∈ putIn L k c := List.mem_append_right _ List.mem_cons_self
theorem putIn_AS {L : List Nat} {k c : Nat} (h : AS L) (hc : c ≤ 126) : AS (putIn L k c) := fun d hd => by
  rcases List.mem_append.mp hd with hd | hd
  · exact h d (List.mem_of_mem_take hd)
  · rcases List.mem_cons.mp hd with rfl | hd
    · exact hc
    · exact h d (List.mem_of_mem_drop hd)
theorem putIn_len (L : List Nat) (k c : Nat) : (putIn L k c).length = L.length + 1 := by
  unfold putIn
  rw [List.length_append, List.length_cons, List.length_take, List.length_drop]
  omega
theorem lc_ne {c : Nat} (h : isLc c = false) {k : Nat} (h1 : 97 ≤ k) (h2 : k ≤ 122) : c ≠ k := fun e => by
  subst e
  unfold isLc at h
  rw [decide_eq_true h1, decide_eq_true h2] at h
  cases h
theorem nf_row {P cs : List Nat} (hP : P = cT ∨ P = cW) {k c : Nat} (h0 : cs ≠ []) (hl : ∀ x ∈ cs, isLc x = true) (hc : isLc c = false) : nf (putIn (P ++ cs) k c) = true := by
  have n := fun k h1 h2 => lc_ne hc (k := k) h1 h2
  have n101 := n 101 (by omega) (by omega)
  have n116 := n 116 (by omega) (by omega)
  have n120 := n 120 (by omega) (by omega)
  have n115 := n 115 (by omega) (by omega)
  have n119 := n 119 (by omega) (by omega)
  have n111 := n 111 (by omega) (by omega)
  have n114 := n 114 (by omega) (by omega)
  have n100 := n 100 (by omega) (by omega)
  refine nf_of (putIn_mem _ _ _) hc ?_ ?_ ?_
  all_goals
    by_cases k5 : 5 ≤ k
    · obtain ⟨j, rfl⟩ : ∃ j, k = 5 + j := ⟨k - 5, by omega⟩
      have e : putIn (P ++ cs) (5 + j) c = P ++ (cs.take j ++ c :: cs.drop j) := by
        have hl5 : P.length = 5 := by rcases hP with rfl | rfl <;> rfl
        unfold putIn
        rw [show 5 + j = P.length + j by omega, List.take_append, List.drop_append, List.take_of_length_le (by omega), List.drop_of_length_le (by omega), List.append_assoc]
        simp
      have hm : c ∈ cs.take j ++ c :: cs.drop j := List.mem_append_right _ List.mem_cons_self
      have hlen : (cs.take j ++ c :: cs.drop j).length = cs.length + 1 := putIn_len cs j c
      have hpos := List.length_pos_iff.mpr h0
      have a := aLl_no hm hc
      rw [e]
      generalize cs.take j ++ c :: cs.drop j = M at *
      rcases hP with rfl | rfl
      · simp [a]
        try (intro e; rw [e] at hlen; have hlen : 1 = cs.length + 1 := hlen; omega)
      · simp [a]
    · have hk : k = 0 ∨ k = 1 ∨ k = 2 ∨ k = 3 ∨ k = 4 := by omega
      have a := aLl_no (l := c :: cs) List.mem_cons_self hc
      have b : ∀ x, aLl (c :: x) = false := fun x => aLl_no List.mem_cons_self hc
      have b2 : aLl (32 :: cs) = false := aLl_no (l := 32 :: cs) List.mem_cons_self rfl
      rcases hP with rfl | rfl <;> rcases hk with rfl | rfl | rfl | rfl | rfl <;> simp [putIn, n101, n116, n120, n115, n119, n111, n114, n100, Ne.symm n101, Ne.symm n116, Ne.symm n119, h0, b2]
theorem nf_word {L : List Nat} {k c : Nat} (hL : L = (Str.ofString "covers").cps.toList ∨ L = (Str.ofString "lies").cps.toList ∨ L = (Str.ofString "texts 12").cps.toList) (hk : k ≤ L.length) (hc : isLc c = false) (hf : isFg c = false) : nf (putIn L k c) = true := by
  have n := fun k h1 h2 => lc_ne hc (k := k) h1 h2
  have n101 := n 101 (by omega) (by omega)
  have n116 := n 116 (by omega) (by omega)
  have n120 := n 120 (by omega) (by omega)
  have n115 := n 115 (by omega) (by omega)
  have n119 := n 119 (by omega) (by omega)
  have n111 := n 111 (by omega) (by omega)
  have n114 := n 114 (by omega) (by omega)
  have n100 := n 100 (by omega) (by omega)
  have i1 : ∀ x, iLl (c :: x) = false := fun x => iLl_no List.mem_cons_self hf
  have i2 : ∀ y x, iLl (y :: c :: x) = false := fun y x => iLl_no (List.mem_cons_of_mem _ List.mem_cons_self) hf
  have i3 : ∀ z y x, iLl (z :: y :: c :: x) = false := fun z y x => iLl_no (List.mem_cons_of_mem _ (List.mem_cons_of_mem _ List.mem_cons_self)) hf
  have i4 : ∀ x, iLl (32 :: x) = false := fun x => iLl_no List.mem_cons_self rfl
  have a4 : ∀ x, aLl (32 :: x) = false := fun x => aLl_no List.mem_cons_self rfl
  have a5 : ∀ y x, aLl (y :: 32 :: x) = false := fun y x => aLl_no (List.mem_cons_of_mem _ List.mem_cons_self) rfl
  refine nf_of (putIn_mem _ _ _) hc ?_ ?_ ?_
  all_goals
    rcases hL with rfl | rfl | rfl
    · have e : (Str.ofString "covers").cps.toList = [99, 111, 118, 101, 114, 115] := rfl
      rw [e] at hk ⊢
      have hk : k ≤ 6 := hk
      obtain rfl | rfl | rfl | rfl | rfl | rfl | rfl : k = 0 ∨ k = 1 ∨ k = 2 ∨ k = 3 ∨ k = 4 ∨ k = 5 ∨ k = 6 := by omega
      all_goals simp [putIn, n116, n119]
    · have e : (Str.ofString "lies").cps.toList = [108, 105, 101, 115] := rfl
      rw [e] at hk ⊢
      have hk : k ≤ 4 := hk
      obtain rfl | rfl | rfl | rfl | rfl : k = 0 ∨ k = 1 ∨ k = 2 ∨ k = 3 ∨ k = 4 := by omega
      all_goals simp [putIn, n116, n119]
    · have e : (Str.ofString "texts 12").cps.toList = [116, 101, 120, 116, 115, 32, 49, 50] := rfl
      rw [e] at hk ⊢
      have hk : k ≤ 8 := hk
      obtain rfl | rfl | rfl | rfl | rfl | rfl | rfl | rfl | rfl : k = 0 ∨ k = 1 ∨ k = 2 ∨ k = 3 ∨ k = 4 ∨ k = 5 ∨ k = 6 ∨ k = 7 ∨ k = 8 := by omega
      all_goals simp [putIn, n116, n119, n101, n120, n115, i1, i2, i3, i4, a4, a5]
end Ov
namespace Ov
open PySem (Str PyData)
open MV
abbrev sigS : Str := Str.ofString " !\"#$&'()*+,-./:;<=>?@ABCDEFGHIJKLMNOPQRSTUVWXYZ[\\]^_`{|}~"
abbrev figS : Str := Str.ofString "0123456789"
theorem sig_ok : ∀ c ∈ sigS.cps.toList, isLc c = false ∧ isFg c = false ∧ c ≤ 126 := by decide +kernel
theorem fig_ok : ∀ c ∈ figS.cps.toList, isLc c = false ∧ c ≤ 126 := by decide +kernel
theorem sig_len : sigS.cps.toList.length = 58 := by decide +kernel
theorem sigf_len : (sigS.cps.toList ++ figS.cps.toList).length = 68 := by decide +kernel
theorem ix_S {l : List Nat} (hl : l.length ≤ 1000) {r : Nat} (hr : r < l.length) : gIx (.str (mkS l)) (.int (r : Int)) = some (.str (s1 l[r])) := by
  show (if (mkS l).length ≤ LIM then (L2.atI (mkS l).cps.toList (r : Int)).map (fun c => D.str ⟨#[c]⟩) else none) = _
  rw [if_pos (by rw [mkS_len]; show _ ≤ 100000; omega), mkS_list, atI_eq, List.getElem?_eq_getElem hr]; rfl
theorem len_S {l : List Nat} (hl : l.length ≤ 1000) : gLen [.str (mkS l)] = some (.int (l.length : Int)) := by
  show (if (mkS l).length ≤ LIM then some (D.int ((mkS l).length : Int)) else none) = _
  rw [mkS_len, if_pos (by show _ ≤ 100000; omega)]
theorem add_S {a b : List Nat} (h : a.length + b.length ≤ 5000) : gAdd (.str (mkS a)) (.str (mkS b)) = some (.str (mkS (a ++ b))) := by
  show (if (mkS a).length + (mkS b).length ≤ LIM then some (D.str (mkS a ++ mkS b)) else none) = _
  rw [mkS_len, mkS_len, if_pos (by show _ ≤ 100000; omega), mkS_app]
theorem signs_4 : F__law_signs_v4 [] = .ok (.str sigS) .non := by
  simp [F__law_signs_v4, r_runF, B__law_signs_v4]
theorem longer_end {c : Int} {L : List Nat} {b : Bool} (hl : L.length ≤ 500) (ha : AS L) {x1 x2 x5 : Option D} {x4 : Option D} (hb : gIn (.str (mkS (L.take 5))) (.lst [.str (Str.ofString "text "), .str (Str.ofString "word ")]) = some (.bl b))
    (hn : ∀ k ch, k ≤ L.length → isLc ch = false → (b = false → isFg ch = false) → nf (putIn L k ch) = true) :
    ∃ (l : List Nat) (e : PEnv), (sSeq (sSet 4 (eCall F__law_digit (aCons (eV 0) (aCons (eC (.int 3)) (aCons (e2 gAdd (eN gLen (aCons (eV 3) aNil)) (eC (.int 1))) aNil)))))
  (sSeq (sSet 5 (eCall F__law_signs_v4 aNil))
  (sSeq (sIf (tB (e2 gIn (eSl (eV 3) oNone (oSome (eC (.int 5)))) (eN gLst (aCons (eC (.str (Str.ofString "text "))) (aCons (eC (.str (Str.ofString "word "))) aNil))))) (sSet 5 (e2 gAdd (eV 5) (eC (.str (Str.ofString "0123456789"))))) sSkip)
  (sRet (eF (e2 gAdd (e2 gAdd (eSl (eV 3) oNone (oSome (eV 4))) (e2 gIx (eV 5) (eCall F__law_digit (aCons (eV 0) (aCons (eC (.int 4)) (aCons (eN gLen (aCons (eV 5) aNil)) aNil)))))) (eSl (eV 3) (oSome (eV 4)) oNone))))))) [some (.int c), x1, x2, some (.str (mkS L)), x4, x5] = .ok (.rt (.str (mkS l))) e ∧ nfD (.str (mkS l)) = true := by
  obtain ⟨k, io, k1, k2⟩ := digit_ok c (k := 3) (by decide) (m := L.length + 1) (by omega)
  have z2 : (2 : Nat) ≤ PySem.sizeLine := by decide
  obtain ⟨S, hS⟩ : ∃ S, S = sigS.cps.toList ++ (if b = true then figS.cps.toList else []) := ⟨_, rfl⟩
  have lS : 0 < S.length ∧ S.length ≤ 100 := by
    rw [hS]
    cases b with
    | true => rw [if_pos rfl, sigf_len]; omega
    | false => rw [if_neg (by decide), List.append_nil, sig_len]; omega
  have okS' : ∀ c ∈ S, isLc c = false ∧ c ≤ 126 ∧ (b = false → isFg c = false) := fun ch hc => by
    rw [hS] at hc
    rcases List.mem_append.mp hc with hc | hc
    · obtain ⟨a, b, c⟩ := sig_ok ch hc; exact ⟨a, c, fun _ => b⟩
    · cases b with
      | true => obtain ⟨a, b⟩ := fig_ok ch (by simpa using hc); exact ⟨a, b, fun h => by cases h⟩
      | false => simp at hc
  obtain ⟨r, io2, r1, r2⟩ := digit_ok c (k := 4) (by decide) (m := S.length) lS.1
  have hc := okS' _ (List.getElem_mem r2)
  have gx := ix_S (l := S) (by omega) r2
  generalize S[r] = ch at hc gx
  have g1 := len_S (l := L) (by omega)
  have g2 := len_S (l := S) (by omega)
  have t1 : L2.cutS (mkS L) none (some (k : Int)) = mkS (L.take k) := by rw [cut_mkS, cutA_to]
  have t2 : L2.cutS (mkS L) (some (k : Int)) none = mkS (L.drop k) := by rw [cut_mkS, cutA_from]
  have t5 : L2.cutS (mkS L) none (some 5) = mkS (L.take 5) := by rw [cut_mkS, cutA_5]
  have tL : (mkS L).length ≤ LIM := by rw [mkS_len]; show _ ≤ 100000; omega
  have e1 : gAdd (.str (mkS (L.take k))) (.str (s1 ch)) = some (.str (mkS (L.take k ++ [ch]))) := add_S (b := [ch]) (by rw [List.length_take, List.length_singleton]; omega)
  have e2' : gAdd (.str (mkS (L.take k ++ [ch]))) (.str (mkS (L.drop k))) = some (.str (mkS (putIn L k ch))) := by
    rw [add_S (by rw [List.length_append, List.length_take, List.length_drop, List.length_singleton]; omega)]
    unfold putIn
    rw [List.append_assoc]; rfl
  have e3a : sigS.length + (Str.ofString "0123456789").length ≤ LIM := by decide +kernel
  have e3b : sigS ++ Str.ofString "0123456789" = mkS (sigS.cps.toList ++ figS.cps.toList) := by
    show mkS sigS.cps.toList ++ mkS figS.cps.toList = _
    rw [mkS_app]
  refine ⟨putIn L k ch, ?_⟩
  have fin : nfD (.str (mkS (putIn L k ch))) = true := by
    show (nf (putIn L k ch) && decide (AS (putIn L k ch)) && decide ((putIn L k ch).length ≤ 1000)) = true
    rw [hn k ch (by omega) hc.1 hc.2.2, decide_eq_true (putIn_AS ha hc.2.1), decide_eq_true (by rw [putIn_len]; omega)]; rfl
  refine ⟨[some (.int c), x1, x2, some (.str (mkS L)), some (.int (k : Int)), some (.str (mkS S))], ?_, fin⟩
  have k1 : F__law_digit [.int c, .int 3, .int ((L.length : Int) + 1)] = .ok (.int k) io := k1
  have r1 : F__law_digit [.int c, .int 4, .int (S.length : Int)] = .ok (.int r) io2 := r1
  have sg := signs_4
  have fl : ∀ z : Str, (D.str z).flat = true := fun z => rfl
  generalize putIn L k ch = PP at e2'
  cases b with
  | true =>
    have hS : mkS (sigS.cps.toList ++ figS.cps.toList) = mkS S := by rw [hS]; rfl
    rw [hS] at e3b
    obtain ⟨SS, hSS⟩ : ∃ SS, SS = sigS := ⟨_, rfl⟩
    rw [← hSS] at sg e3a e3b
    generalize Str.ofString "0123456789" = FF at e3a e3b ⊢
    generalize Str.ofString "text " = A1 at hb
    generalize Str.ofString "word " = A2 at hb
    generalize mkS S = MS at *
    generalize mkS L = ML at *
    generalize mkS (L.take k) = M1 at *
    generalize mkS (L.drop k) = M2 at *
    generalize mkS (L.take 5) = M5 at *
    generalize mkS (L.take k ++ [ch]) = M3 at *
    simp [tL, g1, k1, sg, t5, hb, z2, e3a, e3b, t1, t2, g2, r1, gx, e1, e2', fl]
  | false =>
    have hS : sigS = mkS S := by rw [hS, if_neg (by decide), List.append_nil]; rfl
    rw [hS] at sg
    clear e3a e3b
    generalize Str.ofString "text " = A1 at hb
    generalize Str.ofString "word " = A2 at hb
    generalize mkS S = MS at *
    generalize mkS L = ML at *
    generalize mkS (L.take k) = M1 at *
    generalize mkS (L.drop k) = M2 at *
    generalize mkS (L.take 5) = M5 at *
    generalize mkS (L.take k ++ [ch]) = M3 at *
    simp [tL, g1, k1, sg, t5, hb, z2, t1, t2, g2, r1, gx, e1, e2', fl]
end Ov
namespace Ov
open PySem (Str PyData)
open MV
theorem in2_val {l : List Nat} : gIn (.str (mkS l)) (.lst [.str (Str.ofString "text "), .str (Str.ofString "word ")]) = some (.bl (decide (l = cT ∨ l = cW))) := by
  show some (D.bl (inD (.str (mkS l)) ([Str.ofString "text ", Str.ofString "word "].map D.str))) = _
  rw [inD_str]
  have : (mkS l ∈ [Str.ofString "text ", Str.ofString "word "]) ↔ (l = cT ∨ l = cW) := by
    rw [show Str.ofString "text " = mkS cT from rfl, show Str.ofString "word " = mkS cW from rfl]
    simp [mkS_inj]
  rw [decide_eq_decide.mpr this]
theorem longer_ok (c : Int) : ∃ (l : List Nat) (io : D), F__law_longer [.int c] = .ok (.str (mkS l)) io ∧ nfD (.str (mkS l)) = true := by
  obtain ⟨r7, i7, a1, a2⟩ := digit_ok c (k := 7) (by decide) (m := 2) (by decide)
  have a1 : F__law_digit [.int c, .int 7, .int 2] = .ok (.int r7) i7 := a1
  have z : ∀ n : Nat, n ≤ 10 → n ≤ PySem.sizeLine := fun n hn => Nat.le_trans hn (by decide)
  obtain ⟨m, m1, m2, m3⟩ : ∃ m : Nat, L2.atI [D.int 5, D.int 200] (r7 : Int) = some (.int (m : Int)) ∧ 0 < m ∧ m ≤ 200 := by
    have : r7 = 0 ∨ r7 = 1 := by omega
    rcases this with rfl | rfl
    · exact ⟨5, rfl, by decide, by decide⟩
    · exact ⟨200, rfl, by decide, by decide⟩
  obtain ⟨r6, i6, b1, b2⟩ := digit_ok c (k := 6) (by decide) (m := m) m2
  have b1 : F__law_digit [.int c, .int 6, .int (m : Int)] = .ok (.int r6) i6 := b1
  obtain ⟨w, iw, w1, w2, w3⟩ := rword_ok c (b := 10) (many := 1 + r6) (sorts := 26) (by decide) (by omega) (by decide)
  have w1 : F__law_word_v2 [.int c, .int 10, .int (1 + (r6 : Int)), .int 26] = .ok (dT w) iw := by
    have e : ((1 + r6 : Nat) : Int) = 1 + (r6 : Int) := by omega
    rw [← e]; exact w1
  obtain ⟨cs, rfl, hcs⟩ := tx_cps w2
  rw [List.length_map] at w3
  have cs0 : cs ≠ [] := fun e => by rw [e] at w3; simp at w3; omega
  have jn := gJoin_s1 (cs := cs) (by omega)
  obtain ⟨r2, i2, d1, d2⟩ := digit_ok c (k := 2) (by decide) (m := 5) (by decide)
  have d1 : F__law_digit [.int c, .int 2, .int 5] = .ok (.int r2) i2 := d1
  have csA : AS cs := fun x hx => by
    have := hcs x hx
    unfold isLc at this
    rw [Bool.and_eq_true, decide_eq_true_iff, decide_eq_true_iff] at this
    omega
  -- the row
  obtain ⟨L, b, hL, hl, hA, hb, hn⟩ : ∃ (L : List Nat) (b : Bool), L2.atI [D.str (mkS (cT ++ cs)), D.str (mkS (cW ++ cs)), D.str (Str.ofString "covers"), D.str (Str.ofString "lies"), D.str (Str.ofString "texts 12")] (r2 : Int) = some (.str (mkS L)) ∧ L.length ≤ 500 ∧ AS L ∧ decide (L.take 5 = cT ∨ L.take 5 = cW) = b ∧ ∀ k ch, k ≤ L.length → isLc ch = false → (b = false → isFg ch = false) → nf (putIn L k ch) = true := by
    have : r2 = 0 ∨ r2 = 1 ∨ r2 = 2 ∨ r2 = 3 ∨ r2 = 4 := by omega
    rcases this with rfl | rfl | rfl | rfl | rfl
    · exact ⟨cT ++ cs, true, rfl, by rw [List.length_append]; show 5 + _ ≤ _; omega, AS.append (by decide) csA, by simp, fun k ch _ h1 _ => nf_row (.inl rfl) cs0 hcs h1⟩
    · exact ⟨cW ++ cs, true, rfl, by rw [List.length_append]; show 5 + _ ≤ _; omega, AS.append (by decide) csA, by simp, fun k ch _ h1 _ => nf_row (.inr rfl) cs0 hcs h1⟩
    · exact ⟨(Str.ofString "covers").cps.toList, false, rfl, by decide +kernel, by decide +kernel, by decide +kernel, fun k ch hk h1 h2 => nf_word (.inl rfl) hk h1 (h2 rfl)⟩
    · exact ⟨(Str.ofString "lies").cps.toList, false, rfl, by decide +kernel, by decide +kernel, by decide +kernel, fun k ch hk h1 h2 => nf_word (.inr (.inl rfl)) hk h1 (h2 rfl)⟩
    · exact ⟨(Str.ofString "texts 12").cps.toList, false, rfl, by decide +kernel, by decide +kernel, by decide +kernel, fun k ch hk h1 h2 => nf_word (.inr (.inr rfl)) hk h1 (h2 rfl)⟩
  have hb' := in2_val (l := L.take 5)
  rw [hb] at hb'
  obtain ⟨l, e, q1, q2⟩ := longer_end (c := c) (L := L) (b := b) hl hA (x1 := some (.int (1 + (r6 : Int)))) (x2 := some (.str (mkS cs))) (x4 := none) (x5 := none) hb' hn
  refine ⟨l, ioOf e, ?_, q2⟩
  have t1 : (Str.ofString "text ").length + (mkS cs).length ≤ LIM := by rw [mkS_len]; show 5 + _ ≤ 100000; omega
  have t2 : (Str.ofString "word ").length + (mkS cs).length ≤ LIM := by rw [mkS_len]; show 5 + _ ≤ 100000; omega
  have t3 : Str.ofString "text " ++ mkS cs = mkS (cT ++ cs) := mkS_app cT cs
  have t4 : Str.ofString "word " ++ mkS cs = mkS (cW ++ cs) := mkS_app cW cs
  have fl : ∀ z : Str, (D.str z).flat = true := fun z => rfl
  simp only [F__law_longer, r_runF, B__law_longer]
  have ps1 : sSet 1 (e2 gAdd (eC (.int 1)) (eCall F__law_digit (aCons (eV 0) (aCons (eC (.int 6)) (aCons (e2 gIx (eN gLst (aCons (eC (.int 5)) (aCons (eC (.int 200)) aNil))) (eCall F__law_digit (aCons (eV 0) (aCons (eC (.int 7)) (aCons (eC (.int 2)) aNil))))) aNil))))) [some (.int c), none, none, none, none, none] = .ok .nx [some (.int c), some (.int (1 + (r6 : Int))), none, none, none, none] := by
    simp [a1, z, m1, b1]
  have ps2 : sSet 2 (eM "str" gJoin (eC (.str (Str.ofString ""))) (aCons (eCall F__law_word_v2 (aCons (eV 0) (aCons (eC (.int 10)) (aCons (eV 1) (aCons (eC (.int 26)) aNil))))) aNil)) [some (.int c), some (.int (1 + (r6 : Int))), none, none, none, none] = .ok .nx [some (.int c), some (.int (1 + (r6 : Int))), some (.str (mkS cs)), none, none, none] := by
    generalize dT (cs.map s1) = W at *
    generalize Str.ofString "" = A at *
    simp [w1, jn]
  have ps3 : sSet 3 (e2 gIx (eN gLst (aCons (eF (e2 gAdd (eC (.str (Str.ofString "text "))) (eV 2))) (aCons (eF (e2 gAdd (eC (.str (Str.ofString "word "))) (eV 2))) (aCons (eC (.str (Str.ofString "covers"))) (aCons (eC (.str (Str.ofString "lies"))) (aCons (eC (.str (Str.ofString "texts 12"))) aNil)))))) (eCall F__law_digit (aCons (eV 0) (aCons (eC (.int 2)) (aCons (eC (.int 5)) aNil))))) [some (.int c), some (.int (1 + (r6 : Int))), some (.str (mkS cs)), none, none, none] = .ok .nx [some (.int c), some (.int (1 + (r6 : Int))), some (.str (mkS cs)), some (.str (mkS L)), none, none] := by
    generalize Str.ofString "text " = A1 at *
    generalize Str.ofString "word " = A2 at *
    generalize Str.ofString "covers" = A3 at *
    generalize Str.ofString "lies" = A4 at *
    generalize Str.ofString "texts 12" = A5 at *
    generalize mkS (cT ++ cs) = T1 at *
    generalize mkS (cW ++ cs) = T2 at *
    generalize mkS cs = CS at *
    generalize mkS L = ML at *
    simp [t1, t2, t3, t4, d1, z, hL, fl]
  show finF _ = _
  rw [show envOf 6 [D.int c] = [some (.int c), none, none, none, none, none] from rfl, r_sSeq, ps1, rb_ok, sqK_nx, r_sSeq, ps2, rb_ok, sqK_nx, r_sSeq, ps3, rb_ok, sqK_nx, q1]
  rfl
theorem menu_ok : ∃ (ms : List D) (io : D), F__law_menu_v2 [] = .ok (.lst ms) io ∧ ms ≠ [] ∧ ms.length ≤ 1000 ∧ ∀ m ∈ ms, nfD m = true := by
  refine ⟨_, _, rfl, ?_, ?_, ?_⟩
  · intro h; cases h
  · decide +kernel
  · decide +kernel
end Ov
namespace Ov
open PySem (Str PyData)
open MV
abbrev lA : List Str := [s1 97, s1 97, s1 98, s1 97, s1 97]
abbrev lB : List Str := [s1 97, s1 97]
theorem tx_A : Tx lA := fun x hx => by
  simp only [List.mem_cons, List.not_mem_nil, or_false] at hx
  rcases hx with rfl | rfl | rfl | rfl | rfl
  all_goals first | exact ⟨97, rfl, by decide, by decide⟩ | exact ⟨98, rfl, by decide, by decide⟩
theorem tx_B : Tx lB := fun x hx => by
  simp only [List.mem_cons, List.not_mem_nil, or_false] at hx
  rcases hx with rfl | rfl <;> exact ⟨97, rfl, by decide, by decide⟩
theorem cov_AB : F_covered [dT lA, dT lB] = .ok (.tup [.str (Str.ofString "bare"), .int 2]) (dT lA) := by
  rw [covered_val tx_A tx_B (by simp) (by simp) (by decide) (by decide)]
  have : reach lB.length 0 (lies lA lB) = 2 := by decide +kernel
  rw [this]
  rfl
theorem sayA1 : F_Desk_say [.tup [.non, .non], .str (Str.ofString "text aabaa")] = .ok (.str (Str.ofString "signs 5")) (.tup [dT lA, .non]) := by rfl
theorem sayA2 : F_Desk_say [.tup [dT lA, .non], .str (Str.ofString "word aa")] = .ok (.str (Str.ofString "signs 2")) (.tup [dT lA, dT lB]) := by rfl
theorem laid_none : F__law_said_v8 [.tup [.non, .non], .str (Str.ofString "laid")] = .ok (fls 8) (.tup [.non, .non]) := by rfl
theorem both_told : F_Desk_need_told [.tup [dT lA, dT lB], .bl true, .bl true] = .ok .non (.tup [dT lA, dT lB]) := by rfl
theorem both_laid : F_Desk_of_both [.tup [dT lA, dT lB], .str (Str.ofString "laid")] = .ok (.str (Str.ofString "bare 2")) (.tup [dT lA, dT lB]) := by
  have h := cov_AB
  have n1 : gEq (.str (Str.ofString "laid")) (.str (Str.ofString "lies")) = some (.bl false) := rfl
  have n2 : gEq (.str (Str.ofString "laid")) (.str (Str.ofString "laid")) = some (.bl true) := rfl
  have n3 : gEq (.str (Str.ofString "bare")) (.str (Str.ofString "covers")) = some (.bl false) := rfl
  have n4 : gStrI [.int 2] = some (.str (mkS [50])) := rfl
  have n5 : gAdd (.str (Str.ofString "bare ")) (.str (mkS [50])) = some (.str (Str.ofString "bare 2")) := rfl
  simp only [F_Desk_of_both, r_runF, B_Desk_of_both]
  generalize Str.ofString "laid" = A1 at *
  generalize Str.ofString "lies" = A2 at *
  generalize Str.ofString "covers" = A3 at *
  generalize Str.ofString "bare" = A4 at *
  generalize Str.ofString "bare " = A5 at *
  generalize Str.ofString "bare 2" = A6 at *
  generalize dT lA = TA at *
  generalize dT lB = TB at *
  generalize mkS [50] = M2 at *
  simp only [r_sSeq, r_sIf, r_tB, r_e2, r_eV, r_eC]
  simp [-gAdd_s, n1, n2, n3, n4, n5, h]
theorem laid_AB : F__law_said_v8 [.tup [dT lA, dT lB], .str (Str.ofString "laid")] = .ok (.str (Str.ofString "bare 2")) (.tup [dT lA, dT lB]) := by
  have h1 := both_told
  have h2 := both_laid
  have f1 : (dT lA).flat = true := rfl
  have f2 : (dT lB).flat = true := rfl
  have hs : F_Desk_say [.tup [dT lA, dT lB], .str (Str.ofString "laid")] = .ok (.str (Str.ofString "bare 2")) (.tup [dT lA, dT lB]) := by
    have q1 : L2.cutS (Str.ofString "laid") none (some 5) = Str.ofString "laid" := rfl
    have q2 : L2.cutS (Str.ofString "laid") none (some 6) = Str.ofString "laid" := rfl
    have l1 : (Str.ofString "laid").length ≤ LIM := by decide +kernel
    have e1 : gEq (.str (Str.ofString "laid")) (.str (Str.ofString "text ")) = some (.bl false) := rfl
    have e2 : gEq (.str (Str.ofString "laid")) (.str (Str.ofString "word ")) = some (.bl false) := rfl
    have e3 : gEq (.str (Str.ofString "laid")) (.str (Str.ofString "texts ")) = some (.bl false) := rfl
    have e4 : gEq (.str (Str.ofString "laid")) (.str (Str.ofString "covers")) = some (.bl false) := rfl
    have e5 : gEq (.str (Str.ofString "laid")) (.str (Str.ofString "shortest")) = some (.bl false) := rfl
    have e6 : gIn (.str (Str.ofString "laid")) (.tup [.str (Str.ofString "lies"), .str (Str.ofString "laid"), .str (Str.ofString "fewest"), .str (Str.ofString "wrong"), .str (Str.ofString "ends")]) = some (.bl true) := rfl
    have z5 : (5 : Nat) ≤ PySem.sizeLine := by decide
    simp only [F_Desk_say, r_runF, B_Desk_say]
    generalize Str.ofString "text " = A1 at *
    generalize Str.ofString "word " = A2 at *
    generalize Str.ofString "texts " = A3 at *
    generalize Str.ofString "covers" = A5 at *
    generalize Str.ofString "shortest" = A6 at *
    generalize Str.ofString "lies" = A7 at *
    generalize Str.ofString "laid" = A8 at *
    generalize Str.ofString "fewest" = A9 at *
    generalize Str.ofString "wrong" = A10 at *
    generalize Str.ofString "ends" = A11 at *
    generalize Str.ofString "bare 2" = A12 at *
    generalize dT lA = TA at *
    generalize dT lB = TB at *
    simp [l1, q1, q2, e1, e2, e3, e4, e5, e6, z5, h1, h2, f1, f2]
  simp only [F__law_said_v8, r_runF, B__law_said_v8, B__law_said_v8_l1, B__law_said_v8_l2]
  generalize Str.ofString "bare 2" = A12 at *
  generalize Str.ofString "laid" = A8 at *
  generalize dT lA = TA at *
  generalize dT lB = TB at *
  simp [sTryH, hs, f1, f2]
end Ov
namespace Ov
open PySem (Str PyData)
open MV
abbrev SG : List Nat := sigS.cps.toList ++ (Str.ofString "0123456789\t\n").cps.toList
theorem sg_ok : ∀ ch ∈ SG, nf ([116, 101, 120, 116, 32, 97, 98] ++ [ch] ++ [99]) = true ∧ nf (cW ++ [ch] ++ [97, 98]) = true ∧ ch ≤ 126 := by decide +kernel
theorem lay_fls (k : Nat) : Lay 64 (fls k) := lay_lst (n := 63) fun x hx => by
  obtain ⟨j, _, rfl⟩ := List.mem_map.mp hx
  exact lay_bl _
theorem k47_sign {t w : D} (ht : t.flat = true) (hw : w.flat = true) {ch : Nat} (hc : ch ∈ SG) {q h u m a7 a8 a9 : Option D} : B_law_k47_l1 [q, h, some (.tup [t, w]), u, m, some (fls 6), some (.str (s1 ch)), a7, a8, a9] = .ok .nx [q, h, some (.tup [t, w]), u, m, some (fls 6), some (.str (s1 ch)), a7, a8, a9] := by
  obtain ⟨h1, h2, h3⟩ := sg_ok ch hc
  have a1 : AS ([116, 101, 120, 116, 32, 97, 98] ++ [ch] ++ [99]) := fun c hc => by
    simp only [List.mem_append, List.mem_cons, List.not_mem_nil, or_false] at hc
    omega
  have a2 : AS (cW ++ [ch] ++ [97, 98]) := fun c hc => by
    simp only [cW, List.mem_append, List.mem_cons, List.not_mem_nil, or_false] at hc
    omega
  have n1 : nfD (.str (mkS ([116, 101, 120, 116, 32, 97, 98] ++ [ch] ++ [99]))) = true := by
    show (nf _ && decide (AS _) && decide (_ ≤ 1000)) = true
    rw [mkS_list, h1, decide_eq_true a1]; rfl
  have n2 : nfD (.str (mkS (cW ++ [ch] ++ [97, 98]))) = true := by
    show (nf _ && decide (AS _) && decide (_ ≤ 1000)) = true
    rw [mkS_list, h2, decide_eq_true a2]; rfl
  have r1 := said_no n1 ht hw
  have r2 := said_no n2 ht hw
  have l1 : (Str.ofString "text ab").length + (s1 ch).length ≤ LIM := by show 7 + 1 ≤ 100000; omega
  have l2 : (Str.ofString "text ab" ++ s1 ch).length + (Str.ofString "c").length ≤ LIM := by show 8 + 1 ≤ 100000; omega
  have l3 : (Str.ofString "word ").length + (s1 ch).length ≤ LIM := by show 5 + 1 ≤ 100000; omega
  have l4 : (Str.ofString "word " ++ s1 ch).length + (Str.ofString "ab").length ≤ LIM := by show 6 + 2 ≤ 100000; omega
  have e1 : Str.ofString "text ab" ++ s1 ch ++ Str.ofString "c" = mkS ([116, 101, 120, 116, 32, 97, 98] ++ [ch] ++ [99]) := rfl
  have e2' : Str.ofString "word " ++ s1 ch ++ Str.ofString "ab" = mkS (cW ++ [ch] ++ [97, 98]) := rfl
  rw [← e1] at r1
  rw [← e2'] at r2
  have z2 : (2 : Nat) ≤ PySem.sizeLine := by decide
  have ns : gNe (.lst [fls 6, fls 6]) (.lst [fls 6, fls 6]) = some (.bl false) := gNe_self (lay_lst (n := 63) fun x hx => by
    simp only [List.mem_cons, List.not_mem_nil, or_false] at hx
    have hx : x = fls 6 := hx.elim id id
    subst hx
    exact lay_lst (n := 62) fun x hx => by
      obtain ⟨j, _, rfl⟩ := List.mem_map.mp hx
      exact lay_bl _)
  simp only [B_law_k47_l1]
  generalize Str.ofString "text ab" = A1 at *
  generalize Str.ofString "c" = A2 at *
  generalize Str.ofString "word " = A3 at *
  generalize Str.ofString "ab" = A4 at *
  generalize s1 ch = C at *
  generalize fls 6 = FF at *
  simp [l1, l2, l3, l4, r1, r2, ht, hw, z2, ns]
theorem k47_turn {ns : List Int} {t w du : D} {ms : List D} (ht : t.flat = true) (hw : w.flat = true) (hm : ms ≠ []) (hl : ms.length ≤ 1000) (ho : ∀ m ∈ ms, nfD m = true) (hd : F__law_said_v8 [.tup [t, w], .str (Str.ofString "laid")] = .ok du (.tup [t, w])) (lay : Lay 64 du) {h : Int} {k : Nat} (hk : k ≤ 100) {a6 a8 a9 : Option D} :
    ∃ y8 y9, B_law_k47_l2 [some (.lst (ns.map .int)), some (.int h), some (.tup [t, w]), some du, some (.lst ms), some (fls 6), a6, some (.int (k : Int)), a8, a9] = .ok .nx [some (.lst (ns.map .int)), some (.int h), some (.tup [t, w]), some du, some (.lst ms), some (fls 6), a6, some (.int (k : Int)), y8, y9] := by
  obtain ⟨c, io, c1⟩ := cell_at_ok ns k
  have hp : 0 < ms.length := List.length_pos_iff.mpr hm
  obtain ⟨r1, i1, a1, a2⟩ := digit_ok h (k := 1) (by decide) hp
  have a1 : F__law_digit [.int h, .int 1, .int (ms.length : Int)] = .ok (.int r1) i1 := a1
  obtain ⟨r2, i2, b1, b2⟩ := digit_ok c (k := 1) (by decide) (m := 3) (by decide)
  have b1 : F__law_digit [.int c, .int 1, .int 3] = .ok (.int r2) i2 := b1
  obtain ⟨r3, i3, d1, d2⟩ := digit_ok c (k := 5) (by decide) (m := 3) (by decide)
  have d1 : F__law_digit [.int c, .int 5, .int 3] = .ok (.int r3) i3 := d1
  have mk : mulOk (k : Int) 11 = true := mulOk_small (by omega) (by omega)
  have gl : gLen [.lst ms] = some (.int (ms.length : Int)) := rfl
  have pos : (0 : Int) < (ms.length : Int) := by omega
  obtain ⟨j, hj, hj2⟩ : ∃ j : Nat, ((r1 : Int) + (k : Int) * 11 + (r2 : Int)) % (ms.length : Int) = (j : Int) ∧ j < ms.length := ⟨(r1 + k * 11 + r2) % ms.length, by push_cast; rfl, Nat.mod_lt _ hp⟩
  have gx : L2.atI ms (j : Int) = some ms[j] := by rw [atI_eq, List.getElem?_eq_getElem hj2]
  have hn := ho _ (List.getElem_mem hj2)
  generalize ms[j] = mj at gx hn
  obtain ⟨l, io4, l1, l2⟩ := longer_ok c
  have n6 : gNe (fls 6) (fls 6) = some (.bl false) := gNe_self (lay_fls 6)
  have nd : gNe du du = some (.bl false) := gNe_self lay
  have r0 := said_no l2 ht hw
  have rj := said_no hn ht hw
  have fin : ∀ (x : D) (hx : F__law_said_v8 [.tup [t, w], x] = .ok (fls 6) (.tup [t, w])), sIf (tOr2 (tB (e2 gNe (eCallD F__law_said_v8 2 (aCons (eV 9) aNil)) (eV 5))) (tB (e2 gNe (eCallD F__law_said_v8 2 (aCons (eC (.str (Str.ofString "laid"))) aNil)) (eV 3)))) (sRet (eC (.bl false))) sSkip [some (.lst (ns.map .int)), some (.int h), some (.tup [t, w]), some du, some (.lst ms), some (fls 6), a6, some (.int (k : Int)), some (.int c), some x] = .ok .nx [some (.lst (ns.map .int)), some (.int h), some (.tup [t, w]), some du, some (.lst ms), some (fls 6), a6, some (.int (k : Int)), some (.int c), some x] := fun x hx => by
    generalize Str.ofString "laid" = A at *
    generalize fls 6 = FF at *
    simp [hx, hd, n6, nd, ht, hw]
  have st1 : sSet 8 (eCallQ F__law_cell_at 0 (aCons (eV 7) aNil)) [some (.lst (ns.map .int)), some (.int h), some (.tup [t, w]), some du, some (.lst ms), some (fls 6), a6, some (.int (k : Int)), a8, a9] = .ok .nx [some (.lst (ns.map .int)), some (.int h), some (.tup [t, w]), some du, some (.lst ms), some (fls 6), a6, some (.int (k : Int)), some (.int c), a9] := by
    generalize fls 6 = FF at *
    simp [c1]
  have st2 : sSet 9 (e2 gIx (eV 4) (e2 gMod (e2 gAdd (e2 gAdd (eCall F__law_digit (aCons (eV 1) (aCons (eC (.int 1)) (aCons (eN gLen (aCons (eV 4) aNil)) aNil)))) (e2 gMul (eV 7) (eC (.int 11)))) (eCall F__law_digit (aCons (eV 8) (aCons (eC (.int 1)) (aCons (eC (.int 3)) aNil))))) (eN gLen (aCons (eV 4) aNil)))) [some (.lst (ns.map .int)), some (.int h), some (.tup [t, w]), some du, some (.lst ms), some (fls 6), a6, some (.int (k : Int)), some (.int c), a9] = .ok .nx [some (.lst (ns.map .int)), some (.int h), some (.tup [t, w]), some du, some (.lst ms), some (fls 6), a6, some (.int (k : Int)), some (.int c), some mj] := by
    generalize fls 6 = FF at *
    simp [gl, a1, mk, b1, pos, hj, gx]
    try omega
  unfold B_law_k47_l2
  by_cases q : r3 = 0
  · subst q
    refine ⟨some (.int c), some (.str (mkS l)), ?_⟩
    have st3 : sIf (tB (e2 gEq (eCall F__law_digit (aCons (eV 8) (aCons (eC (.int 5)) (aCons (eC (.int 3)) aNil)))) (eC (.int 0)))) (sSet 9 (eCall F__law_longer (aCons (eV 8) aNil))) sSkip [some (.lst (ns.map .int)), some (.int h), some (.tup [t, w]), some du, some (.lst ms), some (fls 6), a6, some (.int (k : Int)), some (.int c), some mj] = .ok .nx [some (.lst (ns.map .int)), some (.int h), some (.tup [t, w]), some du, some (.lst ms), some (fls 6), a6, some (.int (k : Int)), some (.int c), some (.str (mkS l))] := by
      generalize fls 6 = FF at *
      generalize mkS l = ML at *
      simp [d1, l1]
    rw [r_sSeq, st1, rb_ok, sqK_nx, r_sSeq, st2, rb_ok, sqK_nx, r_sSeq, st3, rb_ok, sqK_nx, fin _ r0]
  · refine ⟨some (.int c), some mj, ?_⟩
    have q' : ¬ (r3 : Int) = 0 := by omega
    have st3 : sIf (tB (e2 gEq (eCall F__law_digit (aCons (eV 8) (aCons (eC (.int 5)) (aCons (eC (.int 3)) aNil)))) (eC (.int 0)))) (sSet 9 (eCall F__law_longer (aCons (eV 8) aNil))) sSkip [some (.lst (ns.map .int)), some (.int h), some (.tup [t, w]), some du, some (.lst ms), some (fls 6), a6, some (.int (k : Int)), some (.int c), some mj] = .ok .nx [some (.lst (ns.map .int)), some (.int h), some (.tup [t, w]), some du, some (.lst ms), some (fls 6), a6, some (.int (k : Int)), some (.int c), some mj] := by
      generalize fls 6 = FF at *
      simp [d1, q, q']
    rw [r_sSeq, st1, rb_ok, sqK_nx, r_sSeq, st2, rb_ok, sqK_nx, r_sSeq, st3, rb_ok, sqK_nx, fin _ rj]
theorem k47_desk {ns : List Int} {t w du : D} {ms : List D} (ht : t.flat = true) (hw : w.flat = true) (hm : ms ≠ []) (hl : ms.length ≤ 1000) (ho : ∀ m ∈ ms, nfD m = true) (hd : F__law_said_v8 [.tup [t, w], .str (Str.ofString "laid")] = .ok du (.tup [t, w])) (lay : Lay 64 du) (hn : ns.length ≤ 63) {h : Int} {a6 a7 a8 a9 : Option D} :
    ∃ e, (sSeq (sFor (iS (e2 gAdd (eCall F__law_signs_v4 aNil) (eC (.str (Str.ofString "0123456789\t\n"))))) (tgN 6) B_law_k47_l1)
  (sSeq (sFor (iN gR1 (aCons (eN gMin2 (aCons (eC (.int 70)) (aCons (e2 gAdd (eC (.int 6)) (eLenQ 0)) aNil))) aNil)) (tgN 7) B_law_k47_l2)
  (sRet (eC (.bl true))))) [some (.lst (ns.map .int)), some (.int h), some (.tup [t, w]), some du, some (.lst ms), some (fls 6), a6, a7, a8, a9] = .ok (.rt (.bl true)) (some (.lst (ns.map .int)) :: e) := by
  have sg := signs_4
  have la : sigS.length + (Str.ofString "0123456789\t\n").length ≤ LIM := by decide +kernel
  have ea : sigS ++ Str.ofString "0123456789\t\n" = mkS SG := by
    show mkS sigS.cps.toList ++ mkS (Str.ofString "0123456789\t\n").cps.toList = _
    rw [mkS_app]
  have it1 : iS (e2 gAdd (eCall F__law_signs_v4 aNil) (eC (.str (Str.ofString "0123456789\t\n")))) [some (.lst (ns.map .int)), some (.int h), some (.tup [t, w]), some du, some (.lst ms), some (fls 6), a6, a7, a8, a9] = .ok ((SG.map s1).map D.str) [some (.lst (ns.map .int)), some (.int h), some (.tup [t, w]), some du, some (.lst ms), some (fls 6), a6, a7, a8, a9] := by
    rw [← strD_map, ← ea]
    obtain ⟨SS, hSS⟩ : ∃ SS, SS = sigS := ⟨_, rfl⟩
    rw [← hSS] at sg la ea ⊢
    generalize Str.ofString "0123456789\t\n" = FF at la ea ⊢
    generalize fls 6 = F6 at *
    simp [sg, la]
  obtain ⟨e', f1, y6, rfl⟩ := for_inv (tg := tgN 6) (b := B_law_k47_l1) (ds := (SG.map s1).map D.str) (e := [some (.lst (ns.map .int)), some (.int h), some (.tup [t, w]), some du, some (.lst ms), some (fls 6), a6, a7, a8, a9])
    (fun i e => ∃ y6, e = [some (.lst (ns.map .int)), some (.int h), some (.tup [t, w]), some du, some (.lst ms), some (fls 6), y6, a7, a8, a9])
    ⟨a6, rfl⟩
    (fun i d e hd hi => by
      obtain ⟨y6, rfl⟩ := hi
      obtain ⟨ch, hc, rfl⟩ : ∃ ch, ch ∈ SG ∧ d = .str (s1 ch) := by
        have := List.mem_of_getElem? hd
        rw [List.map_map, List.mem_map] at this
        obtain ⟨ch, hc, rfl⟩ := this
        exact ⟨ch, hc, rfl⟩
      exact ⟨_, _, .nx, rfl, k47_sign ht hw hc, .inl rfl, _, rfl⟩)
  have mn : gMin2 [.int 70, .int (6 + (ns.length : Int))] = some (.int ((min 70 (6 + ns.length) : Nat) : Int)) := by
    show some (D.int (if 6 + (ns.length : Int) < 70 then 6 + (ns.length : Int) else 70)) = _
    congr 2
    split <;> omega
  have sm : smallI ((min 70 (6 + ns.length) : Nat) : Int) = true := small_of (by omega) (by omega)
  obtain ⟨e2, f2, y7, y8, y9, rfl⟩ := for_inv (tg := tgN 7) (b := B_law_k47_l2) (ds := rngD 0 (min 70 (6 + ns.length))) (e := [some (.lst (ns.map .int)), some (.int h), some (.tup [t, w]), some du, some (.lst ms), some (fls 6), y6, a7, a8, a9])
    (fun i e => ∃ y7 y8 y9, e = [some (.lst (ns.map .int)), some (.int h), some (.tup [t, w]), some du, some (.lst ms), some (fls 6), y6, y7, y8, y9])
    ⟨a7, a8, a9, rfl⟩
    (fun i d e hd' hi => by
      obtain ⟨y7, y8, y9, rfl⟩ := hi
      obtain ⟨hi, rfl⟩ := rng0_get hd'
      obtain ⟨z8, z9, g⟩ := k47_turn (ns := ns) ht hw hm hl ho hd lay (h := h) (k := i) (by omega) (a6 := y6) (a8 := y8) (a9 := y9)
      exact ⟨_, _, .nx, rfl, g, .inl rfl, some (.int (i : Int)), z8, z9, rfl⟩)
  have al : (ns.map D.int).all D.sc = true := List.all_eq_true.mpr fun x hx => by
    obtain ⟨n, _, rfl⟩ := List.mem_map.mp hx
    rfl
  have ln : (6 : Int) + ((ns.map D.int).length : Int) = 6 + (ns.length : Int) := by rw [List.length_map]
  have it2 : iN gR1 (aCons (eN gMin2 (aCons (eC (.int 70)) (aCons (e2 gAdd (eC (.int 6)) (eLenQ 0)) aNil))) aNil) [some (.lst (ns.map .int)), some (.int h), some (.tup [t, w]), some du, some (.lst ms), some (fls 6), y6, a7, a8, a9] = .ok (rngD 0 (min 70 (6 + ns.length))) [some (.lst (ns.map .int)), some (.int h), some (.tup [t, w]), some du, some (.lst ms), some (fls 6), y6, a7, a8, a9] := by
    generalize fls 6 = F6 at *
    generalize (min 70 (6 + ns.length)) = N at *
    simp [mn, sm]
  refine ⟨[some (.int h), some (.tup [t, w]), some du, some (.lst ms), some (fls 6), y6, y7, y8, y9], ?_⟩
  rw [r_sSeq, r_sFor, it1, rb_ok, f1, rb_ok, sqK_nx, r_sSeq, r_sFor, it2, rb_ok, f2, rb_ok, sqK_nx]
  rfl
theorem true_law_k47 (ns : List Int) (hl : ns.length ≤ 63) : ∃ io, F_law_k47 [.lst (ns.map .int)] = .ok (.bl true) io := by
  refine ⟨.lst (ns.map .int), ?_⟩
  obtain ⟨h, io, h1⟩ := cell_at_ok ns 0
  have h1 : F__law_cell_at [.lst (ns.map .int), .int 0] = .ok (.int h) io := h1
  obtain ⟨r, i0, r1, r2⟩ := digit_ok h (k := 0) (by decide) (m := 2) (by decide)
  have r1 : F__law_digit [.int h, .int 0, .int 2] = .ok (.int r) i0 := r1
  obtain ⟨ms, io2, m1, m2, m3, m4⟩ := menu_ok
  have z : ∀ n : Nat, n ≤ 10 → n ≤ PySem.sizeLine := fun n hn => Nat.le_trans hn (by decide)
  have d8 : e2 gAdd (e2 gMul (eN gLst (aCons (eC (.bl false)) aNil)) (eC (.int 8))) (eN gLst (aCons (eC (.bl true)) (aCons (eC (.bl false)) aNil))) = fun e => .ok (fls 8) e := by
    funext e; rfl
  have d6 : e2 gAdd (e2 gAdd (e2 gMul (eN gLst (aCons (eC (.bl false)) aNil)) (eC (.int 6))) (eN gLst (aCons (eC (.bl true)) aNil))) (e2 gMul (eN gLst (aCons (eC (.bl false)) aNil)) (eC (.int 3))) = fun e => .ok (fls 6) e := by
    funext e; rfl
  simp only [F_law_k47, r_runF, B_law_k47]
  rw [d8, d6, show envOf 10 [D.lst (ns.map .int)] = [some (.lst (ns.map .int)), none, none, none, none, none, none, none, none, none] from rfl]
  have s1 : sSet 1 (eCallQ F__law_cell_at 0 (aCons (eC (.int 0)) aNil)) [some (.lst (ns.map .int)), none, none, none, none, none, none, none, none, none] = .ok .nx [some (.lst (ns.map .int)), some (.int h), none, none, none, none, none, none, none, none] := by simp [h1]
  rw [r_sSeq, s1, rb_ok, sqK_nx, r_sSeq, r_sMkD, rb_ok, sqK_nx, r_sSeq]
  show finF (rb (Res.ok Fl.nx [some (.lst (ns.map .int)), some (.int h), some (.tup [.non, .non]), some (fls 8), none, none, none, none, none, none]) _) = _
  rw [rb_ok, sqK_nx, r_sSeq]
  by_cases q : r = 0
  · subst q
    have f1 : (dT lA).flat = true := rfl
    have f2 : (dT lB).flat = true := rfl
    have a1 := sayA1
    have a2 := sayA2
    have s2 : sIf (tB (e2 gEq (eCall F__law_digit (aCons (eV 1) (aCons (eC (.int 0)) (aCons (eC (.int 2)) aNil)))) (eC (.int 0)))) (sSeq (sDrop (eCallD F_Desk_say 2 (aCons (eC (.str (Str.ofString "text aabaa"))) aNil)))
  (sSeq (sDrop (eCallD F_Desk_say 2 (aCons (eC (.str (Str.ofString "word aa"))) aNil)))
  (sSet 3 (eC (.str (Str.ofString "bare 2")))))) sSkip [some (.lst (ns.map .int)), some (.int h), some (.tup [.non, .non]), some (fls 8), none, none, none, none, none, none] = .ok .nx [some (.lst (ns.map .int)), some (.int h), some (.tup [dT lA, dT lB]), some (.str (Str.ofString "bare 2")), none, none, none, none, none, none] := by
      have fn : D.non.flat = true := rfl
      generalize Str.ofString "text aabaa" = A1 at *
      generalize Str.ofString "word aa" = A2 at *
      generalize Str.ofString "bare 2" = A3 at *
      generalize Str.ofString "signs 5" = A4 at *
      generalize Str.ofString "signs 2" = A5 at *
      generalize dT lA = TA at *
      generalize dT lB = TB at *
      generalize fls 8 = F8 at *
      simp [r1, a1, a2, f1, f2, fn]
    have s3 : sSet 4 (eCall F__law_menu_v2 aNil) [some (.lst (ns.map .int)), some (.int h), some (.tup [dT lA, dT lB]), some (.str (Str.ofString "bare 2")), none, none, none, none, none, none] = .ok .nx [some (.lst (ns.map .int)), some (.int h), some (.tup [dT lA, dT lB]), some (.str (Str.ofString "bare 2")), some (.lst ms), none, none, none, none, none] := by
      generalize Str.ofString "bare 2" = A3 at *
      generalize dT lA = TA at *
      generalize dT lB = TB at *
      simp [m1]
    obtain ⟨e, k⟩ := k47_desk (ns := ns) f1 f2 m2 m3 m4 laid_AB (lay_str (by unfold okS; decide +kernel)) hl (h := h) (a6 := none) (a7 := none) (a8 := none) (a9 := none)
    rw [s2, rb_ok, sqK_nx, r_sSeq, s3, rb_ok, sqK_nx, r_sSeq]
    show finF (rb (Res.ok Fl.nx [some (.lst (ns.map .int)), some (.int h), some (.tup [dT lA, dT lB]), some (.str (Str.ofString "bare 2")), some (.lst ms), some (fls 6), none, none, none, none]) _) = _
    rw [rb_ok, sqK_nx, k]
    rfl
  · have q' : ¬ (r : Int) = 0 := by omega
    have s2 : sIf (tB (e2 gEq (eCall F__law_digit (aCons (eV 1) (aCons (eC (.int 0)) (aCons (eC (.int 2)) aNil)))) (eC (.int 0)))) (sSeq (sDrop (eCallD F_Desk_say 2 (aCons (eC (.str (Str.ofString "text aabaa"))) aNil)))
  (sSeq (sDrop (eCallD F_Desk_say 2 (aCons (eC (.str (Str.ofString "word aa"))) aNil)))
  (sSet 3 (eC (.str (Str.ofString "bare 2")))))) sSkip [some (.lst (ns.map .int)), some (.int h), some (.tup [.non, .non]), some (fls 8), none, none, none, none, none, none] = .ok .nx [some (.lst (ns.map .int)), some (.int h), some (.tup [.non, .non]), some (fls 8), none, none, none, none, none, none] := by
      generalize fls 8 = F8 at *
      simp [r1, q, q']
    have s3 : sSet 4 (eCall F__law_menu_v2 aNil) [some (.lst (ns.map .int)), some (.int h), some (.tup [.non, .non]), some (fls 8), none, none, none, none, none, none] = .ok .nx [some (.lst (ns.map .int)), some (.int h), some (.tup [.non, .non]), some (fls 8), some (.lst ms), none, none, none, none, none] := by
      generalize fls 8 = F8 at *
      simp [m1]
    obtain ⟨e, k⟩ := k47_desk (ns := ns) (t := .non) (w := .non) rfl rfl m2 m3 m4 laid_none (lay_fls 8) hl (h := h) (a6 := none) (a7 := none) (a8 := none) (a9 := none)
    rw [s2, rb_ok, sqK_nx, r_sSeq, s3, rb_ok, sqK_nx, r_sSeq]
    show finF (rb (Res.ok Fl.nx [some (.lst (ns.map .int)), some (.int h), some (.tup [.non, .non]), some (fls 8), some (.lst ms), some (fls 6), none, none, none, none]) _) = _
    rw [rb_ok, sqK_nx, k]
    rfl
end Ov
namespace Lk47
open PySem PySem.Spec PyProof.Rows L2 MV Ov
def topS (i : Nat) : Stmt := PySem.Challenge.pw_overlaid_k47_rows_of_no_form.main.body.getD i (.Pass ⟨0, 0, 0, 0⟩)
abbrev s_need_word : Stmt := topS 13
abbrev N_need_word : List Str := [Str.ofString "word"]
abbrev ps_need_word : List Str := [Str.ofString "word"]
theorem sc_need_word : FnScope N_need_word ps_need_word (defScope s_need_word) := ⟨rfl, rfl, rfl, by decide +kernel, rfl, by decide +kernel, by decide +kernel⟩
def cf_need_word (K : PySem.W.Frag) (mg : Str → Option Value) : Cf := ⟨K, fun i => [Kd.S].getD i .S, cvK K, none⟩
abbrev s_need_signs : Stmt := topS 14
abbrev N_need_signs : List Str := [Str.ofString "signs", Str.ofString "sign"]
abbrev ps_need_signs : List Str := [Str.ofString "signs"]
theorem sc_need_signs : FnScope N_need_signs ps_need_signs (defScope s_need_signs) := ⟨rfl, rfl, rfl, by decide +kernel, rfl, by decide +kernel, by decide +kernel⟩
def cf_need_signs (K : PySem.W.Frag) (mg : Str → Option Value) : Cf := ⟨K, fun i => [Kd.S, Kd.S].getD i .S, cvK K, none⟩
abbrev s_need_text : Stmt := topS 15
abbrev N_need_text : List Str := [Str.ofString "text"]
abbrev ps_need_text : List Str := [Str.ofString "text"]
theorem sc_need_text : FnScope N_need_text ps_need_text (defScope s_need_text) := ⟨rfl, rfl, rfl, by decide +kernel, rfl, by decide +kernel, by decide +kernel⟩
def cf_need_text (K : PySem.W.Frag) (mg : Str → Option Value) : Cf := ⟨K, fun i => [Kd.S].getD i .S, cvK K, none⟩
abbrev s_greatest_borders : Stmt := topS 16
abbrev N_greatest_borders : List Str := [Str.ofString "text", Str.ofString "found", Str.ofString "border", Str.ofString "place", Str.ofString "sign"]
abbrev ps_greatest_borders : List Str := [Str.ofString "text"]
theorem sc_greatest_borders : FnScope N_greatest_borders ps_greatest_borders (defScope s_greatest_borders) := ⟨rfl, rfl, rfl, by decide +kernel, rfl, by decide +kernel, by decide +kernel⟩
def cf_greatest_borders (K : PySem.W.Frag) (mg : Str → Option Value) : Cf := ⟨K, fun i => [Kd.S, Kd.M, Kd.S, Kd.S, Kd.S].getD i .S, cvK K, none⟩
abbrev s_laid_at : Stmt := topS 18
abbrev N_laid_at : List Str := [Str.ofString "text", Str.ofString "word", Str.ofString "size", Str.ofString "place"]
abbrev ps_laid_at : List Str := [Str.ofString "text", Str.ofString "word"]
theorem sc_laid_at : FnScope N_laid_at ps_laid_at (defScope s_laid_at) := ⟨rfl, rfl, rfl, by decide +kernel, rfl, by decide +kernel, by decide +kernel⟩
def cf_laid_at (K : PySem.W.Frag) (mg : Str → Option Value) : Cf := ⟨K, fun i => [Kd.S, Kd.S, Kd.S, Kd.S].getD i .S, cvK K, none⟩
abbrev s_first_bare : Stmt := topS 22
abbrev N_first_bare : List Str := [Str.ofString "size", Str.ofString "places", Str.ofString "end", Str.ofString "reached", Str.ofString "place"]
abbrev ps_first_bare : List Str := [Str.ofString "size", Str.ofString "places", Str.ofString "end"]
theorem sc_first_bare : FnScope N_first_bare ps_first_bare (defScope s_first_bare) := ⟨rfl, rfl, rfl, by decide +kernel, rfl, by decide +kernel, by decide +kernel⟩
def cf_first_bare (K : PySem.W.Frag) (mg : Str → Option Value) : Cf := ⟨K, fun i => [Kd.S, Kd.S, Kd.S, Kd.N, Kd.S].getD i .S, cvK K, none⟩
abbrev s_all_shifts : Stmt := topS 29
abbrev N_all_shifts : List Str := [Str.ofString "word", Str.ofString "far"]
abbrev ps_all_shifts : List Str := [Str.ofString "word"]
theorem sc_all_shifts : FnScope N_all_shifts ps_all_shifts (defScope s_all_shifts) := ⟨rfl, rfl, rfl, by decide +kernel, rfl, by decide +kernel, by decide +kernel⟩
def cf_all_shifts (K : PySem.W.Frag) (mg : Str → Option Value) : Cf := ⟨K, fun i => [Kd.S, Kd.S].getD i .S, cvK K, none⟩
abbrev s_misses : Stmt := topS 31
abbrev N_misses : List Str := [Str.ofString "text", Str.ofString "word", Str.ofString "found", Str.ofString "place", Str.ofString "row", Str.ofString "k", Str.ofString "sign"]
abbrev ps_misses : List Str := [Str.ofString "text", Str.ofString "word"]
theorem sc_misses : FnScope N_misses ps_misses (defScope s_misses) := ⟨rfl, rfl, rfl, by decide +kernel, rfl, by decide +kernel, by decide +kernel⟩
def cf_misses (K : PySem.W.Frag) (mg : Str → Option Value) : Cf := ⟨K, fun i => [Kd.S, Kd.S, Kd.M, Kd.S, Kd.M, Kd.S, Kd.S].getD i .S, cvK K, none⟩
abbrev s_need_length : Stmt := topS 41
abbrev N_need_length : List Str := [Str.ofString "length"]
abbrev ps_need_length : List Str := [Str.ofString "length"]
theorem sc_need_length : FnScope N_need_length ps_need_length (defScope s_need_length) := ⟨rfl, rfl, rfl, by decide +kernel, rfl, by decide +kernel, by decide +kernel⟩
def cf_need_length (K : PySem.W.Frag) (mg : Str → Option Value) : Cf := ⟨K, fun i => [Kd.S].getD i .S, cvK K, none⟩
abbrev s_hung_ahead : Stmt := topS 44
abbrev N_hung_ahead : List Str := [Str.ofString "text", Str.ofString "word", Str.ofString "length"]
abbrev ps_hung_ahead : List Str := [Str.ofString "text", Str.ofString "word"]
theorem sc_hung_ahead : FnScope N_hung_ahead ps_hung_ahead (defScope s_hung_ahead) := ⟨rfl, rfl, rfl, by decide +kernel, rfl, by decide +kernel, by decide +kernel⟩
def cf_hung_ahead (K : PySem.W.Frag) (mg : Str → Option Value) : Cf := ⟨K, fun i => [Kd.S, Kd.S, Kd.S].getD i .S, cvK K, none⟩
abbrev s_hung_behind : Stmt := topS 45
abbrev N_hung_behind : List Str := [Str.ofString "text", Str.ofString "word", Str.ofString "length"]
abbrev ps_hung_behind : List Str := [Str.ofString "text", Str.ofString "word"]
theorem sc_hung_behind : FnScope N_hung_behind ps_hung_behind (defScope s_hung_behind) := ⟨rfl, rfl, rfl, by decide +kernel, rfl, by decide +kernel, by decide +kernel⟩
def cf_hung_behind (K : PySem.W.Frag) (mg : Str → Option Value) : Cf := ⟨K, fun i => [Kd.S, Kd.S, Kd.S].getD i .S, cvK K, none⟩
abbrev s_are_letters : Stmt := topS 55
abbrev N_are_letters : List Str := [Str.ofString "text", Str.ofString "sign"]
abbrev ps_are_letters : List Str := [Str.ofString "text"]
theorem sc_are_letters : FnScope N_are_letters ps_are_letters (defScope s_are_letters) := ⟨rfl, rfl, rfl, by decide +kernel, rfl, by decide +kernel, by decide +kernel⟩
def cf_are_letters (K : PySem.W.Frag) (mg : Str → Option Value) : Cf := ⟨K, fun i => [Kd.S, Kd.S].getD i .S, cvK K, none⟩
abbrev s_is_length : Stmt := topS 56
abbrev N_is_length : List Str := [Str.ofString "word", Str.ofString "sign"]
abbrev ps_is_length : List Str := [Str.ofString "word"]
theorem sc_is_length : FnScope N_is_length ps_is_length (defScope s_is_length) := ⟨rfl, rfl, rfl, by decide +kernel, rfl, by decide +kernel, by decide +kernel⟩
def cf_is_length (K : PySem.W.Frag) (mg : Str → Option Value) : Cf := ⟨K, fun i => [Kd.S, Kd.S].getD i .S, cvK K, none⟩
abbrev s_numbers_text : Stmt := topS 57
abbrev N_numbers_text : List Str := [Str.ofString "numbers", Str.ofString "number"]
abbrev ps_numbers_text : List Str := [Str.ofString "numbers"]
theorem sc_numbers_text : FnScope N_numbers_text ps_numbers_text (defScope s_numbers_text) := ⟨rfl, rfl, rfl, by decide +kernel, rfl, by decide +kernel, by decide +kernel⟩
def cf_numbers_text (K : PySem.W.Frag) (mg : Str → Option Value) : Cf := ⟨K, fun i => [Kd.S, Kd.S].getD i .S, cvK K, none⟩
abbrev s_Desk_need_told : Stmt := inClass (topS 58) 2
abbrev N_Desk_need_told : List Str := [Str.ofString "self", Str.ofString "text", Str.ofString "word"]
abbrev ps_Desk_need_told : List Str := [Str.ofString "self", Str.ofString "text", Str.ofString "word"]
theorem sc_Desk_need_told : FnScope N_Desk_need_told ps_Desk_need_told (defScope s_Desk_need_told) := ⟨rfl, rfl, rfl, by decide +kernel, rfl, by decide +kernel, by decide +kernel⟩
def cf_Desk_need_told (K : PySem.W.Frag) (mg : Str → Option Value) : Cf := ⟨K, fun i => [Kd.W, Kd.S, Kd.S].getD i .S, cvK K, obD mg⟩
abbrev s__law_cell_at : Stmt := topS 60
abbrev N__law_cell_at : List Str := [Str.ofString "script", Str.ofString "k"]
abbrev ps__law_cell_at : List Str := [Str.ofString "script", Str.ofString "k"]
theorem sc__law_cell_at : FnScope N__law_cell_at ps__law_cell_at (defScope s__law_cell_at) := ⟨rfl, rfl, rfl, by decide +kernel, rfl, by decide +kernel, by decide +kernel⟩
def cf__law_cell_at (K : PySem.W.Frag) (mg : Str → Option Value) : Cf := ⟨K, fun i => [Kd.Q, Kd.S].getD i .S, cvK K, none⟩
abbrev s__law_stir : Stmt := topS 61
abbrev N__law_stir : List Str := [Str.ofString "cell", Str.ofString "k", Str.ofString "number"]
abbrev ps__law_stir : List Str := [Str.ofString "cell", Str.ofString "k"]
theorem sc__law_stir : FnScope N__law_stir ps__law_stir (defScope s__law_stir) := ⟨rfl, rfl, rfl, by decide +kernel, rfl, by decide +kernel, by decide +kernel⟩
def cf__law_stir (K : PySem.W.Frag) (mg : Str → Option Value) : Cf := ⟨K, fun i => [Kd.S, Kd.S, Kd.S].getD i .S, cvK K, none⟩
abbrev s__law_class : Stmt := topS 65
abbrev N__law_class : List Str := [Str.ofString "e", Str.ofString "flags"]
abbrev ps__law_class : List Str := [Str.ofString "e"]
theorem sc__law_class : FnScope N__law_class ps__law_class (defScope s__law_class) := ⟨rfl, rfl, rfl, by decide +kernel, rfl, by decide +kernel, by decide +kernel⟩
def cf__law_class (K : PySem.W.Frag) (mg : Str → Option Value) : Cf := ⟨K, fun i => [Kd.S, Kd.S].getD i .S, cvK K, none⟩
abbrev s__law_menu : Stmt := topS 67
abbrev N__law_menu : List Str := [Str.ofString "some"]
abbrev ps__law_menu : List Str := []
theorem sc__law_menu : FnScope N__law_menu ps__law_menu (defScope s__law_menu) := ⟨rfl, rfl, rfl, by decide +kernel, rfl, by decide +kernel, by decide +kernel⟩
def cf__law_menu (K : PySem.W.Frag) (mg : Str → Option Value) : Cf := ⟨K, fun i => [Kd.N].getD i .S, cvK K, none⟩
abbrev s__law_signs : Stmt := topS 68
abbrev N__law_signs : List Str := []
abbrev ps__law_signs : List Str := []
theorem sc__law_signs : FnScope N__law_signs ps__law_signs (defScope s__law_signs) := ⟨rfl, rfl, rfl, by decide +kernel, rfl, by decide +kernel, by decide +kernel⟩
def cf__law_signs (K : PySem.W.Frag) (mg : Str → Option Value) : Cf := ⟨K, fun i => [].getD i .S, cvK K, none⟩
abbrev s_borders : Stmt := topS 17
abbrev N_borders : List Str := [Str.ofString "text", Str.ofString "found", Str.ofString "greatest", Str.ofString "border"]
abbrev ps_borders : List Str := [Str.ofString "text"]
theorem sc_borders : FnScope N_borders ps_borders (defScope s_borders) := ⟨rfl, rfl, rfl, by decide +kernel, rfl, by decide +kernel, by decide +kernel⟩
def cf_borders (K : PySem.W.Frag) (mg : Str → Option Value) : Cf := ⟨K, fun i => [Kd.S, Kd.M, Kd.S, Kd.S].getD i .S, cvK K, none⟩
abbrev s_lies_at : Stmt := topS 19
abbrev N_lies_at : List Str := [Str.ofString "text", Str.ofString "word"]
abbrev ps_lies_at : List Str := [Str.ofString "text", Str.ofString "word"]
theorem sc_lies_at : FnScope N_lies_at ps_lies_at (defScope s_lies_at) := ⟨rfl, rfl, rfl, by decide +kernel, rfl, by decide +kernel, by decide +kernel⟩
def cf_lies_at (K : PySem.W.Frag) (mg : Str → Option Value) : Cf := ⟨K, fun i => [Kd.S, Kd.S].getD i .S, cvK K, none⟩
abbrev s_need_both : Stmt := topS 21
abbrev N_need_both : List Str := [Str.ofString "text", Str.ofString "word"]
abbrev ps_need_both : List Str := [Str.ofString "text", Str.ofString "word"]
theorem sc_need_both : FnScope N_need_both ps_need_both (defScope s_need_both) := ⟨rfl, rfl, rfl, by decide +kernel, rfl, by decide +kernel, by decide +kernel⟩
def cf_need_both (K : PySem.W.Frag) (mg : Str → Option Value) : Cf := ⟨K, fun i => [Kd.S, Kd.S].getD i .S, cvK K, none⟩
abbrev s_need_room : Stmt := topS 30
abbrev N_need_room : List Str := [Str.ofString "text", Str.ofString "word"]
abbrev ps_need_room : List Str := [Str.ofString "text", Str.ofString "word"]
theorem sc_need_room : FnScope N_need_room ps_need_room (defScope s_need_room) := ⟨rfl, rfl, rfl, by decide +kernel, rfl, by decide +kernel, by decide +kernel⟩
def cf_need_room (K : PySem.W.Frag) (mg : Str → Option Value) : Cf := ⟨K, fun i => [Kd.S, Kd.S].getD i .S, cvK K, none⟩
abbrev s_best_from : Stmt := topS 32
abbrev N_best_from : List Str := [Str.ofString "text", Str.ofString "word", Str.ofString "near", Str.ofString "size", Str.ofString "missed", Str.ofString "end", Str.ofString "found", Str.ofString "place", Str.ofString "some", Str.ofString "far", Str.ofString "cost", Str.ofString "many", Str.ofString "beyond", Str.ofString "own"]
abbrev ps_best_from : List Str := [Str.ofString "text", Str.ofString "word"]
theorem sc_best_from : FnScope N_best_from ps_best_from (defScope s_best_from) := ⟨rfl, rfl, rfl, by decide +kernel, rfl, by decide +kernel, by decide +kernel⟩
def cf_best_from (K : PySem.W.Frag) (mg : Str → Option Value) : Cf := ⟨K, fun i => [Kd.S, Kd.S, Kd.S, Kd.N, Kd.N, Kd.S, Kd.M, Kd.S, Kd.M, Kd.S, Kd.S, Kd.S, Kd.S, Kd.S].getD i .S, cvK K, none⟩
abbrev s_need_whole_word : Stmt := topS 37
abbrev N_need_whole_word : List Str := [Str.ofString "word"]
abbrev ps_need_whole_word : List Str := [Str.ofString "word"]
theorem sc_need_whole_word : FnScope N_need_whole_word ps_need_whole_word (defScope s_need_whole_word) := ⟨rfl, rfl, rfl, by decide +kernel, rfl, by decide +kernel, by decide +kernel⟩
def cf_need_whole_word (K : PySem.W.Frag) (mg : Str → Option Value) : Cf := ⟨K, fun i => [Kd.S].getD i .S, cvK K, none⟩
abbrev s_next_shifts : Stmt := topS 38
abbrev N_next_shifts : List Str := [Str.ofString "word", Str.ofString "every", Str.ofString "found", Str.ofString "far", Str.ofString "longer", Str.ofString "behind", Str.ofString "near"]
abbrev ps_next_shifts : List Str := [Str.ofString "word"]
theorem sc_next_shifts : FnScope N_next_shifts ps_next_shifts (defScope s_next_shifts) := ⟨rfl, rfl, rfl, by decide +kernel, rfl, by decide +kernel, by decide +kernel⟩
def cf_next_shifts (K : PySem.W.Frag) (mg : Str → Option Value) : Cf := ⟨K, fun i => [Kd.S, Kd.S, Kd.M, Kd.S, Kd.S, Kd.S, Kd.S].getD i .S, cvK K, none⟩
abbrev s_covers_amid : Stmt := topS 46
abbrev N_covers_amid : List Str := [Str.ofString "text", Str.ofString "word", Str.ofString "begin", Str.ofString "end", Str.ofString "behind", Str.ofString "place"]
abbrev ps_covers_amid : List Str := [Str.ofString "text", Str.ofString "word", Str.ofString "begin", Str.ofString "end"]
theorem sc_covers_amid : FnScope N_covers_amid ps_covers_amid (defScope s_covers_amid) := ⟨rfl, rfl, rfl, by decide +kernel, rfl, by decide +kernel, by decide +kernel⟩
def cf_covers_amid (K : PySem.W.Frag) (mg : Str → Option Value) : Cf := ⟨K, fun i => [Kd.S, Kd.S, Kd.S, Kd.S, Kd.S, Kd.S].getD i .S, cvK K, none⟩
abbrev s_is_within : Stmt := topS 47
abbrev N_is_within : List Str := [Str.ofString "text", Str.ofString "word"]
abbrev ps_is_within : List Str := [Str.ofString "text", Str.ofString "word"]
theorem sc_is_within : FnScope N_is_within ps_is_within (defScope s_is_within) := ⟨rfl, rfl, rfl, by decide +kernel, rfl, by decide +kernel, by decide +kernel⟩
def cf_is_within (K : PySem.W.Frag) (mg : Str → Option Value) : Cf := ⟨K, fun i => [Kd.S, Kd.S].getD i .S, cvK K, none⟩
abbrev s__law_digit : Stmt := topS 62
abbrev N__law_digit : List Str := [Str.ofString "cell", Str.ofString "k", Str.ofString "many"]
abbrev ps__law_digit : List Str := [Str.ofString "cell", Str.ofString "k", Str.ofString "many"]
theorem sc__law_digit : FnScope N__law_digit ps__law_digit (defScope s__law_digit) := ⟨rfl, rfl, rfl, by decide +kernel, rfl, by decide +kernel, by decide +kernel⟩
def cf__law_digit (K : PySem.W.Frag) (mg : Str → Option Value) : Cf := ⟨K, fun i => [Kd.S, Kd.S, Kd.S].getD i .S, cvK K, none⟩
abbrev s_covered : Stmt := topS 23
abbrev N_covered : List Str := [Str.ofString "text", Str.ofString "word", Str.ofString "places", Str.ofString "bare"]
abbrev ps_covered : List Str := [Str.ofString "text", Str.ofString "word"]
theorem sc_covered : FnScope N_covered ps_covered (defScope s_covered) := ⟨rfl, rfl, rfl, by decide +kernel, rfl, by decide +kernel, by decide +kernel⟩
def cf_covered (K : PySem.W.Frag) (mg : Str → Option Value) : Cf := ⟨K, fun i => [Kd.S, Kd.S, Kd.N, Kd.N].getD i .S, cvK K, none⟩
abbrev s_onward : Stmt := topS 26
abbrev N_onward : List Str := [Str.ofString "text", Str.ofString "word", Str.ofString "places", Str.ofString "fewest", Str.ofString "place", Str.ofString "some", Str.ofString "other"]
abbrev ps_onward : List Str := [Str.ofString "text", Str.ofString "word"]
theorem sc_onward : FnScope N_onward ps_onward (defScope s_onward) := ⟨rfl, rfl, rfl, by decide +kernel, rfl, by decide +kernel, by decide +kernel⟩
def cf_onward (K : PySem.W.Frag) (mg : Str → Option Value) : Cf := ⟨K, fun i => [Kd.S, Kd.S, Kd.S, Kd.M, Kd.S, Kd.S, Kd.S].getD i .S, cvK K, none⟩
abbrev s_fewest_by : Stmt := topS 33
abbrev N_fewest_by : List Str := [Str.ofString "text", Str.ofString "word", Str.ofString "own", Str.ofString "best", Str.ofString "chain"]
abbrev ps_fewest_by : List Str := [Str.ofString "text", Str.ofString "word"]
theorem sc_fewest_by : FnScope N_fewest_by ps_fewest_by (defScope s_fewest_by) := ⟨rfl, rfl, rfl, by decide +kernel, rfl, by decide +kernel, by decide +kernel⟩
def cf_fewest_by (K : PySem.W.Frag) (mg : Str → Option Value) : Cf := ⟨K, fun i => [Kd.S, Kd.S, Kd.S, Kd.S, Kd.M].getD i .S, cvK K, none⟩
abbrev s_counts_to : Stmt := topS 39
abbrev N_counts_to : List Str := [Str.ofString "word", Str.ofString "length", Str.ofString "near", Str.ofString "found", Str.ofString "more", Str.ofString "far"]
abbrev ps_counts_to : List Str := [Str.ofString "word", Str.ofString "length"]
theorem sc_counts_to : FnScope N_counts_to ps_counts_to (defScope s_counts_to) := ⟨rfl, rfl, rfl, by decide +kernel, rfl, by decide +kernel, by decide +kernel⟩
def cf_counts_to (K : PySem.W.Frag) (mg : Str → Option Value) : Cf := ⟨K, fun i => [Kd.S, Kd.S, Kd.S, Kd.M, Kd.S, Kd.S].getD i .S, cvK K, none⟩
abbrev s_rest_behind : Stmt := topS 48
abbrev N_rest_behind : List Str := [Str.ofString "text", Str.ofString "word"]
abbrev ps_rest_behind : List Str := [Str.ofString "text", Str.ofString "word"]
theorem sc_rest_behind : FnScope N_rest_behind ps_rest_behind (defScope s_rest_behind) := ⟨rfl, rfl, rfl, by decide +kernel, rfl, by decide +kernel, by decide +kernel⟩
def cf_rest_behind (K : PySem.W.Frag) (mg : Str → Option Value) : Cf := ⟨K, fun i => [Kd.S, Kd.S].getD i .S, cvK K, none⟩
abbrev s_rest_ahead : Stmt := topS 49
abbrev N_rest_ahead : List Str := [Str.ofString "text", Str.ofString "word"]
abbrev ps_rest_ahead : List Str := [Str.ofString "text", Str.ofString "word"]
theorem sc_rest_ahead : FnScope N_rest_ahead ps_rest_ahead (defScope s_rest_ahead) := ⟨rfl, rfl, rfl, by decide +kernel, rfl, by decide +kernel, by decide +kernel⟩
def cf_rest_ahead (K : PySem.W.Frag) (mg : Str → Option Value) : Cf := ⟨K, fun i => [Kd.S, Kd.S].getD i .S, cvK K, none⟩
abbrev s_covers_both : Stmt := topS 50
abbrev N_covers_both : List Str := [Str.ofString "text", Str.ofString "word"]
abbrev ps_covers_both : List Str := [Str.ofString "text", Str.ofString "word"]
theorem sc_covers_both : FnScope N_covers_both ps_covers_both (defScope s_covers_both) := ⟨rfl, rfl, rfl, by decide +kernel, rfl, by decide +kernel, by decide +kernel⟩
def cf_covers_both (K : PySem.W.Frag) (mg : Str → Option Value) : Cf := ⟨K, fun i => [Kd.S, Kd.S].getD i .S, cvK K, none⟩
abbrev s__law_word : Stmt := topS 63
abbrev N__law_word : List Str := [Str.ofString "cell", Str.ofString "begin", Str.ofString "many", Str.ofString "sorts", Str.ofString "letters", Str.ofString "off", Str.ofString "k"]
abbrev ps__law_word : List Str := [Str.ofString "cell", Str.ofString "begin", Str.ofString "many", Str.ofString "sorts"]
theorem sc__law_word : FnScope N__law_word ps__law_word (defScope s__law_word) := ⟨rfl, rfl, rfl, by decide +kernel, rfl, by decide +kernel, by decide +kernel⟩
def cf__law_word (K : PySem.W.Frag) (mg : Str → Option Value) : Cf := ⟨K, fun i => [Kd.S, Kd.S, Kd.S, Kd.S, Kd.S, Kd.S, Kd.S].getD i .S, cvK K, none⟩
abbrev s_all_covers : Stmt := topS 24
abbrev N_all_covers : List Str := [Str.ofString "text", Str.ofString "some", Str.ofString "size"]
abbrev ps_all_covers : List Str := [Str.ofString "text"]
theorem sc_all_covers : FnScope N_all_covers ps_all_covers (defScope s_all_covers) := ⟨rfl, rfl, rfl, by decide +kernel, rfl, by decide +kernel, by decide +kernel⟩
def cf_all_covers (K : PySem.W.Frag) (mg : Str → Option Value) : Cf := ⟨K, fun i => [Kd.S, Kd.S, Kd.S].getD i .S, cvK K, none⟩
abbrev s_fewest_layings : Stmt := topS 27
abbrev N_fewest_layings : List Str := [Str.ofString "text", Str.ofString "word", Str.ofString "fewest", Str.ofString "found", Str.ofString "there", Str.ofString "near", Str.ofString "place"]
abbrev ps_fewest_layings : List Str := [Str.ofString "text", Str.ofString "word"]
theorem sc_fewest_layings : FnScope N_fewest_layings ps_fewest_layings (defScope s_fewest_layings) := ⟨rfl, rfl, rfl, by decide +kernel, rfl, by decide +kernel, by decide +kernel⟩
def cf_fewest_layings (K : PySem.W.Frag) (mg : Str → Option Value) : Cf := ⟨K, fun i => [Kd.S, Kd.S, Kd.S, Kd.M, Kd.S, Kd.S, Kd.S].getD i .S, cvK K, none⟩
abbrev s_fewest_wrong : Stmt := topS 34
abbrev N_fewest_wrong : List Str := [Str.ofString "text", Str.ofString "word", Str.ofString "found"]
abbrev ps_fewest_wrong : List Str := [Str.ofString "text", Str.ofString "word"]
theorem sc_fewest_wrong : FnScope N_fewest_wrong ps_fewest_wrong (defScope s_fewest_wrong) := ⟨rfl, rfl, rfl, by decide +kernel, rfl, by decide +kernel, by decide +kernel⟩
def cf_fewest_wrong (K : PySem.W.Frag) (mg : Str → Option Value) : Cf := ⟨K, fun i => [Kd.S, Kd.S, Kd.N].getD i .S, cvK K, none⟩
abbrev s_count_by : Stmt := topS 40
abbrev N_count_by : List Str := [Str.ofString "word", Str.ofString "length"]
abbrev ps_count_by : List Str := [Str.ofString "word", Str.ofString "length"]
theorem sc_count_by : FnScope N_count_by ps_count_by (defScope s_count_by) := ⟨rfl, rfl, rfl, by decide +kernel, rfl, by decide +kernel, by decide +kernel⟩
def cf_count_by (K : PySem.W.Frag) (mg : Str → Option Value) : Cf := ⟨K, fun i => [Kd.S, Kd.S].getD i .S, cvK K, none⟩
abbrev s_rest_both : Stmt := topS 51
abbrev N_rest_both : List Str := [Str.ofString "text", Str.ofString "word"]
abbrev ps_rest_both : List Str := [Str.ofString "text", Str.ofString "word"]
theorem sc_rest_both : FnScope N_rest_both ps_rest_both (defScope s_rest_both) := ⟨rfl, rfl, rfl, by decide +kernel, rfl, by decide +kernel, by decide +kernel⟩
def cf_rest_both (K : PySem.W.Frag) (mg : Str → Option Value) : Cf := ⟨K, fun i => [Kd.S, Kd.S].getD i .S, cvK K, none⟩
abbrev s__law_longer : Stmt := topS 69
abbrev N__law_longer : List Str := [Str.ofString "cell", Str.ofString "many", Str.ofString "letters", Str.ofString "row", Str.ofString "at", Str.ofString "signs"]
abbrev ps__law_longer : List Str := [Str.ofString "cell"]
theorem sc__law_longer : FnScope N__law_longer ps__law_longer (defScope s__law_longer) := ⟨rfl, rfl, rfl, by decide +kernel, rfl, by decide +kernel, by decide +kernel⟩
def cf__law_longer (K : PySem.W.Frag) (mg : Str → Option Value) : Cf := ⟨K, fun i => [Kd.S, Kd.S, Kd.S, Kd.S, Kd.S, Kd.S].getD i .S, cvK K, none⟩
abbrev s_shortest_cover : Stmt := topS 25
abbrev N_shortest_cover : List Str := [Str.ofString "text"]
abbrev ps_shortest_cover : List Str := [Str.ofString "text"]
theorem sc_shortest_cover : FnScope N_shortest_cover ps_shortest_cover (defScope s_shortest_cover) := ⟨rfl, rfl, rfl, by decide +kernel, rfl, by decide +kernel, by decide +kernel⟩
def cf_shortest_cover (K : PySem.W.Frag) (mg : Str → Option Value) : Cf := ⟨K, fun i => [Kd.S].getD i .S, cvK K, none⟩
abbrev s_count_covered : Stmt := topS 42
abbrev N_count_covered : List Str := [Str.ofString "word", Str.ofString "length"]
abbrev ps_count_covered : List Str := [Str.ofString "word", Str.ofString "length"]
theorem sc_count_covered : FnScope N_count_covered ps_count_covered (defScope s_count_covered) := ⟨rfl, rfl, rfl, by decide +kernel, rfl, by decide +kernel, by decide +kernel⟩
def cf_count_covered (K : PySem.W.Frag) (mg : Str → Option Value) : Cf := ⟨K, fun i => [Kd.S, Kd.S].getD i .S, cvK K, none⟩
abbrev s_Desk_yes_or_no : Stmt := inClass (topS 58) 5
abbrev N_Desk_yes_or_no : List Str := [Str.ofString "self", Str.ofString "k", Str.ofString "told"]
abbrev ps_Desk_yes_or_no : List Str := [Str.ofString "self", Str.ofString "k"]
theorem sc_Desk_yes_or_no : FnScope N_Desk_yes_or_no ps_Desk_yes_or_no (defScope s_Desk_yes_or_no) := ⟨rfl, rfl, rfl, by decide +kernel, rfl, by decide +kernel, by decide +kernel⟩
def cf_Desk_yes_or_no (K : PySem.W.Frag) (mg : Str → Option Value) : Cf := ⟨K, fun i => [Kd.W, Kd.S, Kd.S].getD i .S, cvK K, obD mg⟩
abbrev s_Desk_of_both : Stmt := inClass (topS 58) 4
abbrev N_Desk_of_both : List Str := [Str.ofString "self", Str.ofString "row", Str.ofString "word", Str.ofString "told", Str.ofString "cost", Str.ofString "chain", Str.ofString "k"]
abbrev ps_Desk_of_both : List Str := [Str.ofString "self", Str.ofString "row"]
theorem sc_Desk_of_both : FnScope N_Desk_of_both ps_Desk_of_both (defScope s_Desk_of_both) := ⟨rfl, rfl, rfl, by decide +kernel, rfl, by decide +kernel, by decide +kernel⟩
def cf_Desk_of_both (K : PySem.W.Frag) (mg : Str → Option Value) : Cf := ⟨K, fun i => [Kd.W, Kd.S, Kd.S, Kd.S, Kd.S, Kd.S, Kd.S].getD i .S, cvK K, obD mg⟩
abbrev s_Desk_of_text : Stmt := inClass (topS 58) 3
abbrev N_Desk_of_text : List Str := [Str.ofString "self", Str.ofString "row"]
abbrev ps_Desk_of_text : List Str := [Str.ofString "self", Str.ofString "row"]
theorem sc_Desk_of_text : FnScope N_Desk_of_text ps_Desk_of_text (defScope s_Desk_of_text) := ⟨rfl, rfl, rfl, by decide +kernel, rfl, by decide +kernel, by decide +kernel⟩
def cf_Desk_of_text (K : PySem.W.Frag) (mg : Str → Option Value) : Cf := ⟨K, fun i => [Kd.W, Kd.S].getD i .S, cvK K, obD mg⟩
abbrev s_Desk_say : Stmt := inClass (topS 58) 1
abbrev N_Desk_say : List Str := [Str.ofString "self", Str.ofString "row", Str.ofString "sign"]
abbrev ps_Desk_say : List Str := [Str.ofString "self", Str.ofString "row"]
theorem sc_Desk_say : FnScope N_Desk_say ps_Desk_say (defScope s_Desk_say) := ⟨rfl, rfl, rfl, by decide +kernel, rfl, by decide +kernel, by decide +kernel⟩
def cf_Desk_say (K : PySem.W.Frag) (mg : Str → Option Value) : Cf := ⟨K, fun i => [Kd.W, Kd.S, Kd.S].getD i .S, cvK K, obD mg⟩
abbrev s__law_said : Stmt := topS 66
abbrev N__law_said : List Str := [Str.ofString "desk", Str.ofString "row", Str.ofString "found", Str.ofString "e"]
abbrev ps__law_said : List Str := [Str.ofString "desk", Str.ofString "row"]
theorem sc__law_said : FnScope N__law_said ps__law_said (defScope s__law_said) := ⟨rfl, rfl, rfl, by decide +kernel, rfl, by decide +kernel, by decide +kernel⟩
def cf__law_said (K : PySem.W.Frag) (mg : Str → Option Value) : Cf := ⟨K, fun i => [Kd.W, Kd.S, Kd.N, Kd.S].getD i .S, cvK K, obD mg⟩
abbrev s_law : Stmt := topS 70
abbrev N_law : List Str := [Str.ofString "script", Str.ofString "head", Str.ofString "desk", Str.ofString "due", Str.ofString "menu", Str.ofString "none", Str.ofString "sign", Str.ofString "k", Str.ofString "cell", Str.ofString "row"]
abbrev ps_law : List Str := [Str.ofString "script"]
theorem sc_law : FnScope N_law ps_law (defScope s_law) := ⟨rfl, rfl, rfl, by decide +kernel, rfl, by decide +kernel, by decide +kernel⟩
def cf_law (K : PySem.W.Frag) (mg : Str → Option Value) : Cf := ⟨K, fun i => [Kd.Q, Kd.S, Kd.W, Kd.S, Kd.S, Kd.S, Kd.S, Kd.S, Kd.S, Kd.S].getD i .S, cvK K, obD mg⟩
abbrev s_Desk_init : Stmt := inClass (topS 58) 0
theorem sc_Desk_init : FnScope [Str.ofString "self"] [Str.ofString "self"] (defScope s_Desk_init) := ⟨rfl, rfl, rfl, by decide +kernel, rfl, by decide +kernel, by decide +kernel⟩
structure Tp (K : PySem.W.Frag) (mg : Str → Option Value) where
  C_Desk : Addr
  g_Desk : mg (Str.ofString "Desk") = some (.ref C_Desk)
  ob : obD mg = some C_Desk
  cl_Desk : L2.Cls K C_Desk
  nt_Desk : NoAttr K C_Desk (fName false)
  nw_Desk : NoAttr K C_Desk (fName true)
  fI_Desk : Addr
  dI_Desk : FuncData
  FI_Desk : Fun K (Str.ofString "__init__") (Str.ofString "Desk.__init__") s_Desk_init fI_Desk dI_Desk
  bI_Desk : Binds K dI_Desk [Str.ofString "self"] []
  mk_Desk : Mk K C_Desk fI_Desk
  f_need_word : Addr
  d_need_word : FuncData
  F_need_word : Fun K (Str.ofString "need_word") (Str.ofString "need_word") s_need_word f_need_word d_need_word
  g_need_word : mg (Str.ofString "need_word") = some (.ref f_need_word)
  b_need_word : Binds K d_need_word ps_need_word []
  f_need_signs : Addr
  d_need_signs : FuncData
  F_need_signs : Fun K (Str.ofString "need_signs") (Str.ofString "need_signs") s_need_signs f_need_signs d_need_signs
  g_need_signs : mg (Str.ofString "need_signs") = some (.ref f_need_signs)
  b_need_signs : Binds K d_need_signs ps_need_signs []
  f_need_text : Addr
  d_need_text : FuncData
  F_need_text : Fun K (Str.ofString "need_text") (Str.ofString "need_text") s_need_text f_need_text d_need_text
  g_need_text : mg (Str.ofString "need_text") = some (.ref f_need_text)
  b_need_text : Binds K d_need_text ps_need_text []
  f_greatest_borders : Addr
  d_greatest_borders : FuncData
  F_greatest_borders : Fun K (Str.ofString "greatest_borders") (Str.ofString "greatest_borders") s_greatest_borders f_greatest_borders d_greatest_borders
  g_greatest_borders : mg (Str.ofString "greatest_borders") = some (.ref f_greatest_borders)
  b_greatest_borders : Binds K d_greatest_borders ps_greatest_borders []
  f_laid_at : Addr
  d_laid_at : FuncData
  F_laid_at : Fun K (Str.ofString "laid_at") (Str.ofString "laid_at") s_laid_at f_laid_at d_laid_at
  g_laid_at : mg (Str.ofString "laid_at") = some (.ref f_laid_at)
  b_laid_at : Binds K d_laid_at ps_laid_at []
  f_first_bare : Addr
  d_first_bare : FuncData
  F_first_bare : Fun K (Str.ofString "first_bare") (Str.ofString "first_bare") s_first_bare f_first_bare d_first_bare
  g_first_bare : mg (Str.ofString "first_bare") = some (.ref f_first_bare)
  b_first_bare : Binds K d_first_bare ps_first_bare []
  f_all_shifts : Addr
  d_all_shifts : FuncData
  F_all_shifts : Fun K (Str.ofString "all_shifts") (Str.ofString "all_shifts") s_all_shifts f_all_shifts d_all_shifts
  g_all_shifts : mg (Str.ofString "all_shifts") = some (.ref f_all_shifts)
  b_all_shifts : Binds K d_all_shifts ps_all_shifts []
  f_misses : Addr
  d_misses : FuncData
  F_misses : Fun K (Str.ofString "misses") (Str.ofString "misses") s_misses f_misses d_misses
  g_misses : mg (Str.ofString "misses") = some (.ref f_misses)
  b_misses : Binds K d_misses ps_misses []
  f_need_length : Addr
  d_need_length : FuncData
  F_need_length : Fun K (Str.ofString "need_length") (Str.ofString "need_length") s_need_length f_need_length d_need_length
  g_need_length : mg (Str.ofString "need_length") = some (.ref f_need_length)
  b_need_length : Binds K d_need_length ps_need_length []
  f_hung_ahead : Addr
  d_hung_ahead : FuncData
  F_hung_ahead : Fun K (Str.ofString "hung_ahead") (Str.ofString "hung_ahead") s_hung_ahead f_hung_ahead d_hung_ahead
  g_hung_ahead : mg (Str.ofString "hung_ahead") = some (.ref f_hung_ahead)
  b_hung_ahead : Binds K d_hung_ahead ps_hung_ahead []
  f_hung_behind : Addr
  d_hung_behind : FuncData
  F_hung_behind : Fun K (Str.ofString "hung_behind") (Str.ofString "hung_behind") s_hung_behind f_hung_behind d_hung_behind
  g_hung_behind : mg (Str.ofString "hung_behind") = some (.ref f_hung_behind)
  b_hung_behind : Binds K d_hung_behind ps_hung_behind []
  f_are_letters : Addr
  d_are_letters : FuncData
  F_are_letters : Fun K (Str.ofString "are_letters") (Str.ofString "are_letters") s_are_letters f_are_letters d_are_letters
  g_are_letters : mg (Str.ofString "are_letters") = some (.ref f_are_letters)
  b_are_letters : Binds K d_are_letters ps_are_letters []
  f_is_length : Addr
  d_is_length : FuncData
  F_is_length : Fun K (Str.ofString "is_length") (Str.ofString "is_length") s_is_length f_is_length d_is_length
  g_is_length : mg (Str.ofString "is_length") = some (.ref f_is_length)
  b_is_length : Binds K d_is_length ps_is_length []
  f_numbers_text : Addr
  d_numbers_text : FuncData
  F_numbers_text : Fun K (Str.ofString "numbers_text") (Str.ofString "numbers_text") s_numbers_text f_numbers_text d_numbers_text
  g_numbers_text : mg (Str.ofString "numbers_text") = some (.ref f_numbers_text)
  b_numbers_text : Binds K d_numbers_text ps_numbers_text []
  f_Desk_need_told : Addr
  d_Desk_need_told : FuncData
  F_Desk_need_told : Fun K (Str.ofString "need_told") (Str.ofString "Desk.need_told") s_Desk_need_told f_Desk_need_told d_Desk_need_told
  me_Desk_need_told : Meth K C_Desk (Str.ofString "need_told") f_Desk_need_told
  b_Desk_need_told : Binds K d_Desk_need_told ps_Desk_need_told []
  f__law_cell_at : Addr
  d__law_cell_at : FuncData
  F__law_cell_at : Fun K (Str.ofString "_law_cell_at") (Str.ofString "_law_cell_at") s__law_cell_at f__law_cell_at d__law_cell_at
  g__law_cell_at : mg (Str.ofString "_law_cell_at") = some (.ref f__law_cell_at)
  b__law_cell_at : Binds K d__law_cell_at ps__law_cell_at []
  f__law_stir : Addr
  d__law_stir : FuncData
  F__law_stir : Fun K (Str.ofString "_law_stir") (Str.ofString "_law_stir") s__law_stir f__law_stir d__law_stir
  g__law_stir : mg (Str.ofString "_law_stir") = some (.ref f__law_stir)
  b__law_stir : Binds K d__law_stir ps__law_stir []
  f__law_class : Addr
  d__law_class : FuncData
  F__law_class : Fun K (Str.ofString "_law_class") (Str.ofString "_law_class") s__law_class f__law_class d__law_class
  g__law_class : mg (Str.ofString "_law_class") = some (.ref f__law_class)
  b__law_class : Binds K d__law_class ps__law_class []
  f__law_menu : Addr
  d__law_menu : FuncData
  F__law_menu : Fun K (Str.ofString "_law_menu") (Str.ofString "_law_menu") s__law_menu f__law_menu d__law_menu
  g__law_menu : mg (Str.ofString "_law_menu") = some (.ref f__law_menu)
  b__law_menu : Binds K d__law_menu ps__law_menu []
  f__law_signs : Addr
  d__law_signs : FuncData
  F__law_signs : Fun K (Str.ofString "_law_signs") (Str.ofString "_law_signs") s__law_signs f__law_signs d__law_signs
  g__law_signs : mg (Str.ofString "_law_signs") = some (.ref f__law_signs)
  b__law_signs : Binds K d__law_signs ps__law_signs []
  f_borders : Addr
  d_borders : FuncData
  F_borders : Fun K (Str.ofString "borders") (Str.ofString "borders") s_borders f_borders d_borders
  g_borders : mg (Str.ofString "borders") = some (.ref f_borders)
  b_borders : Binds K d_borders ps_borders []
  f_lies_at : Addr
  d_lies_at : FuncData
  F_lies_at : Fun K (Str.ofString "lies_at") (Str.ofString "lies_at") s_lies_at f_lies_at d_lies_at
  g_lies_at : mg (Str.ofString "lies_at") = some (.ref f_lies_at)
  b_lies_at : Binds K d_lies_at ps_lies_at []
  f_need_both : Addr
  d_need_both : FuncData
  F_need_both : Fun K (Str.ofString "need_both") (Str.ofString "need_both") s_need_both f_need_both d_need_both
  g_need_both : mg (Str.ofString "need_both") = some (.ref f_need_both)
  b_need_both : Binds K d_need_both ps_need_both []
  f_need_room : Addr
  d_need_room : FuncData
  F_need_room : Fun K (Str.ofString "need_room") (Str.ofString "need_room") s_need_room f_need_room d_need_room
  g_need_room : mg (Str.ofString "need_room") = some (.ref f_need_room)
  b_need_room : Binds K d_need_room ps_need_room []
  f_best_from : Addr
  d_best_from : FuncData
  F_best_from : Fun K (Str.ofString "best_from") (Str.ofString "best_from") s_best_from f_best_from d_best_from
  g_best_from : mg (Str.ofString "best_from") = some (.ref f_best_from)
  b_best_from : Binds K d_best_from ps_best_from []
  f_need_whole_word : Addr
  d_need_whole_word : FuncData
  F_need_whole_word : Fun K (Str.ofString "need_whole_word") (Str.ofString "need_whole_word") s_need_whole_word f_need_whole_word d_need_whole_word
  g_need_whole_word : mg (Str.ofString "need_whole_word") = some (.ref f_need_whole_word)
  b_need_whole_word : Binds K d_need_whole_word ps_need_whole_word []
  f_next_shifts : Addr
  d_next_shifts : FuncData
  F_next_shifts : Fun K (Str.ofString "next_shifts") (Str.ofString "next_shifts") s_next_shifts f_next_shifts d_next_shifts
  g_next_shifts : mg (Str.ofString "next_shifts") = some (.ref f_next_shifts)
  b_next_shifts : Binds K d_next_shifts ps_next_shifts []
  f_covers_amid : Addr
  d_covers_amid : FuncData
  F_covers_amid : Fun K (Str.ofString "covers_amid") (Str.ofString "covers_amid") s_covers_amid f_covers_amid d_covers_amid
  g_covers_amid : mg (Str.ofString "covers_amid") = some (.ref f_covers_amid)
  b_covers_amid : Binds K d_covers_amid ps_covers_amid []
  f_is_within : Addr
  d_is_within : FuncData
  F_is_within : Fun K (Str.ofString "is_within") (Str.ofString "is_within") s_is_within f_is_within d_is_within
  g_is_within : mg (Str.ofString "is_within") = some (.ref f_is_within)
  b_is_within : Binds K d_is_within ps_is_within []
  f__law_digit : Addr
  d__law_digit : FuncData
  F__law_digit : Fun K (Str.ofString "_law_digit") (Str.ofString "_law_digit") s__law_digit f__law_digit d__law_digit
  g__law_digit : mg (Str.ofString "_law_digit") = some (.ref f__law_digit)
  b__law_digit : Binds K d__law_digit ps__law_digit []
  f_covered : Addr
  d_covered : FuncData
  F_covered : Fun K (Str.ofString "covered") (Str.ofString "covered") s_covered f_covered d_covered
  g_covered : mg (Str.ofString "covered") = some (.ref f_covered)
  b_covered : Binds K d_covered ps_covered []
  f_onward : Addr
  d_onward : FuncData
  F_onward : Fun K (Str.ofString "onward") (Str.ofString "onward") s_onward f_onward d_onward
  g_onward : mg (Str.ofString "onward") = some (.ref f_onward)
  b_onward : Binds K d_onward ps_onward []
  f_fewest_by : Addr
  d_fewest_by : FuncData
  F_fewest_by : Fun K (Str.ofString "fewest_by") (Str.ofString "fewest_by") s_fewest_by f_fewest_by d_fewest_by
  g_fewest_by : mg (Str.ofString "fewest_by") = some (.ref f_fewest_by)
  b_fewest_by : Binds K d_fewest_by ps_fewest_by []
  f_counts_to : Addr
  d_counts_to : FuncData
  F_counts_to : Fun K (Str.ofString "counts_to") (Str.ofString "counts_to") s_counts_to f_counts_to d_counts_to
  g_counts_to : mg (Str.ofString "counts_to") = some (.ref f_counts_to)
  b_counts_to : Binds K d_counts_to ps_counts_to []
  f_rest_behind : Addr
  d_rest_behind : FuncData
  F_rest_behind : Fun K (Str.ofString "rest_behind") (Str.ofString "rest_behind") s_rest_behind f_rest_behind d_rest_behind
  g_rest_behind : mg (Str.ofString "rest_behind") = some (.ref f_rest_behind)
  b_rest_behind : Binds K d_rest_behind ps_rest_behind []
  f_rest_ahead : Addr
  d_rest_ahead : FuncData
  F_rest_ahead : Fun K (Str.ofString "rest_ahead") (Str.ofString "rest_ahead") s_rest_ahead f_rest_ahead d_rest_ahead
  g_rest_ahead : mg (Str.ofString "rest_ahead") = some (.ref f_rest_ahead)
  b_rest_ahead : Binds K d_rest_ahead ps_rest_ahead []
  f_covers_both : Addr
  d_covers_both : FuncData
  F_covers_both : Fun K (Str.ofString "covers_both") (Str.ofString "covers_both") s_covers_both f_covers_both d_covers_both
  g_covers_both : mg (Str.ofString "covers_both") = some (.ref f_covers_both)
  b_covers_both : Binds K d_covers_both ps_covers_both []
  f__law_word : Addr
  d__law_word : FuncData
  F__law_word : Fun K (Str.ofString "_law_word") (Str.ofString "_law_word") s__law_word f__law_word d__law_word
  g__law_word : mg (Str.ofString "_law_word") = some (.ref f__law_word)
  b__law_word : Binds K d__law_word ps__law_word []
  f_all_covers : Addr
  d_all_covers : FuncData
  F_all_covers : Fun K (Str.ofString "all_covers") (Str.ofString "all_covers") s_all_covers f_all_covers d_all_covers
  g_all_covers : mg (Str.ofString "all_covers") = some (.ref f_all_covers)
  b_all_covers : Binds K d_all_covers ps_all_covers []
  f_fewest_layings : Addr
  d_fewest_layings : FuncData
  F_fewest_layings : Fun K (Str.ofString "fewest_layings") (Str.ofString "fewest_layings") s_fewest_layings f_fewest_layings d_fewest_layings
  g_fewest_layings : mg (Str.ofString "fewest_layings") = some (.ref f_fewest_layings)
  b_fewest_layings : Binds K d_fewest_layings ps_fewest_layings []
  f_fewest_wrong : Addr
  d_fewest_wrong : FuncData
  F_fewest_wrong : Fun K (Str.ofString "fewest_wrong") (Str.ofString "fewest_wrong") s_fewest_wrong f_fewest_wrong d_fewest_wrong
  g_fewest_wrong : mg (Str.ofString "fewest_wrong") = some (.ref f_fewest_wrong)
  b_fewest_wrong : Binds K d_fewest_wrong ps_fewest_wrong []
  f_count_by : Addr
  d_count_by : FuncData
  F_count_by : Fun K (Str.ofString "count_by") (Str.ofString "count_by") s_count_by f_count_by d_count_by
  g_count_by : mg (Str.ofString "count_by") = some (.ref f_count_by)
  b_count_by : Binds K d_count_by ps_count_by []
  f_rest_both : Addr
  d_rest_both : FuncData
  F_rest_both : Fun K (Str.ofString "rest_both") (Str.ofString "rest_both") s_rest_both f_rest_both d_rest_both
  g_rest_both : mg (Str.ofString "rest_both") = some (.ref f_rest_both)
  b_rest_both : Binds K d_rest_both ps_rest_both []
  f__law_longer : Addr
  d__law_longer : FuncData
  F__law_longer : Fun K (Str.ofString "_law_longer") (Str.ofString "_law_longer") s__law_longer f__law_longer d__law_longer
  g__law_longer : mg (Str.ofString "_law_longer") = some (.ref f__law_longer)
  b__law_longer : Binds K d__law_longer ps__law_longer []
  f_shortest_cover : Addr
  d_shortest_cover : FuncData
  F_shortest_cover : Fun K (Str.ofString "shortest_cover") (Str.ofString "shortest_cover") s_shortest_cover f_shortest_cover d_shortest_cover
  g_shortest_cover : mg (Str.ofString "shortest_cover") = some (.ref f_shortest_cover)
  b_shortest_cover : Binds K d_shortest_cover ps_shortest_cover []
  f_count_covered : Addr
  d_count_covered : FuncData
  F_count_covered : Fun K (Str.ofString "count_covered") (Str.ofString "count_covered") s_count_covered f_count_covered d_count_covered
  g_count_covered : mg (Str.ofString "count_covered") = some (.ref f_count_covered)
  b_count_covered : Binds K d_count_covered ps_count_covered []
  f_Desk_yes_or_no : Addr
  d_Desk_yes_or_no : FuncData
  F_Desk_yes_or_no : Fun K (Str.ofString "yes_or_no") (Str.ofString "Desk.yes_or_no") s_Desk_yes_or_no f_Desk_yes_or_no d_Desk_yes_or_no
  me_Desk_yes_or_no : Meth K C_Desk (Str.ofString "yes_or_no") f_Desk_yes_or_no
  b_Desk_yes_or_no : Binds K d_Desk_yes_or_no ps_Desk_yes_or_no []
  f_Desk_of_both : Addr
  d_Desk_of_both : FuncData
  F_Desk_of_both : Fun K (Str.ofString "of_both") (Str.ofString "Desk.of_both") s_Desk_of_both f_Desk_of_both d_Desk_of_both
  me_Desk_of_both : Meth K C_Desk (Str.ofString "of_both") f_Desk_of_both
  b_Desk_of_both : Binds K d_Desk_of_both ps_Desk_of_both []
  f_Desk_of_text : Addr
  d_Desk_of_text : FuncData
  F_Desk_of_text : Fun K (Str.ofString "of_text") (Str.ofString "Desk.of_text") s_Desk_of_text f_Desk_of_text d_Desk_of_text
  me_Desk_of_text : Meth K C_Desk (Str.ofString "of_text") f_Desk_of_text
  b_Desk_of_text : Binds K d_Desk_of_text ps_Desk_of_text []
  f_Desk_say : Addr
  d_Desk_say : FuncData
  F_Desk_say : Fun K (Str.ofString "say") (Str.ofString "Desk.say") s_Desk_say f_Desk_say d_Desk_say
  me_Desk_say : Meth K C_Desk (Str.ofString "say") f_Desk_say
  b_Desk_say : Binds K d_Desk_say ps_Desk_say []
  f__law_said : Addr
  d__law_said : FuncData
  F__law_said : Fun K (Str.ofString "_law_said") (Str.ofString "_law_said") s__law_said f__law_said d__law_said
  g__law_said : mg (Str.ofString "_law_said") = some (.ref f__law_said)
  b__law_said : Binds K d__law_said ps__law_said []
  f_law : Addr
  d_law : FuncData
  F_law : Fun K (Str.ofString "law") (Str.ofString "law") s_law f_law d_law
  g_law : mg (Str.ofString "law") = some (.ref f_law)
  b_law : Binds K d_law ps_law []
  t_FIGURES : Tok
  g_FIGURES : mg (Str.ofString "FIGURES") = some (.str (Str.ofString "0123456789") t_FIGURES)
  t_LETTERS_borders : Tok
  g_LETTERS_borders : mg (Str.ofString "LETTERS_borders") = some (.str (Str.ofString "abcdefghijklmnopqrstuvwxyz") t_LETTERS_borders)
  t_LETTERS_desk : Tok
  g_LETTERS_desk : mg (Str.ofString "LETTERS_desk") = some (.str (Str.ofString "abcdefghijklmnopqrstuvwxyz") t_LETTERS_desk)
  t_MOST_SIGNS : Tok
  g_MOST_SIGNS : mg (Str.ofString "MOST_SIGNS") = some (.int 200 t_MOST_SIGNS)
  m_ValueError : mg (Str.ofString "ValueError") = none
  m_enumerate : mg (Str.ofString "enumerate") = none
  m_int : mg (Str.ofString "int") = none
  m_isinstance : mg (Str.ofString "isinstance") = none
  m_len : mg (Str.ofString "len") = none
  m_list : mg (Str.ofString "list") = none
  m_max : mg (Str.ofString "max") = none
  m_min : mg (Str.ofString "min") = none
  m_range : mg (Str.ofString "range") = none
  m_sorted : mg (Str.ofString "sorted") = none
  m_str : mg (Str.ofString "str") = none
  m_sum : mg (Str.ofString "sum") = none
  C_CoverError : Addr
  X_CoverError : XCls K mg (Str.ofString "CoverError") C_CoverError
  C_NoWord : Addr
  X_NoWord : XCls K mg (Str.ofString "NoWord") C_NoWord
  C_NoSign : Addr
  X_NoSign : XCls K mg (Str.ofString "NoSign") C_NoSign
  C_NoText : Addr
  X_NoText : XCls K mg (Str.ofString "NoText") C_NoText
  C_NoCover : Addr
  X_NoCover : XCls K mg (Str.ofString "NoCover") C_NoCover
  C_NoNumber : Addr
  X_NoNumber : XCls K mg (Str.ofString "NoNumber") C_NoNumber
  C_NoChain : Addr
  X_NoChain : XCls K mg (Str.ofString "NoChain") C_NoChain
  C_TooMany : Addr
  X_TooMany : XCls K mg (Str.ofString "TooMany") C_TooMany
  C_NoForm : Addr
  X_NoForm : XCls K mg (Str.ofString "NoForm") C_NoForm
  C_NoneYet : Addr
  X_NoneYet : XCls K mg (Str.ofString "NoneYet") C_NoneYet
  E_NoWord : ExcC K C_NoWord
  V_NoWord : PySem.W.subIn K (.ref C_NoWord) (.type "ValueError") = some true
  S_NoWord_CoverError : PySem.W.subIn K (.ref C_NoWord) (.ref C_CoverError) = some true
  S_NoWord_NoWord : PySem.W.subIn K (.ref C_NoWord) (.ref C_NoWord) = some true
  S_NoWord_NoSign : PySem.W.subIn K (.ref C_NoWord) (.ref C_NoSign) = some false
  S_NoWord_NoText : PySem.W.subIn K (.ref C_NoWord) (.ref C_NoText) = some false
  S_NoWord_NoCover : PySem.W.subIn K (.ref C_NoWord) (.ref C_NoCover) = some false
  S_NoWord_NoNumber : PySem.W.subIn K (.ref C_NoWord) (.ref C_NoNumber) = some false
  S_NoWord_NoChain : PySem.W.subIn K (.ref C_NoWord) (.ref C_NoChain) = some false
  S_NoWord_TooMany : PySem.W.subIn K (.ref C_NoWord) (.ref C_TooMany) = some false
  S_NoWord_NoForm : PySem.W.subIn K (.ref C_NoWord) (.ref C_NoForm) = some false
  S_NoWord_NoneYet : PySem.W.subIn K (.ref C_NoWord) (.ref C_NoneYet) = some false
  E_NoSign : ExcC K C_NoSign
  V_NoSign : PySem.W.subIn K (.ref C_NoSign) (.type "ValueError") = some true
  S_NoSign_CoverError : PySem.W.subIn K (.ref C_NoSign) (.ref C_CoverError) = some true
  S_NoSign_NoWord : PySem.W.subIn K (.ref C_NoSign) (.ref C_NoWord) = some false
  S_NoSign_NoSign : PySem.W.subIn K (.ref C_NoSign) (.ref C_NoSign) = some true
  S_NoSign_NoText : PySem.W.subIn K (.ref C_NoSign) (.ref C_NoText) = some false
  S_NoSign_NoCover : PySem.W.subIn K (.ref C_NoSign) (.ref C_NoCover) = some false
  S_NoSign_NoNumber : PySem.W.subIn K (.ref C_NoSign) (.ref C_NoNumber) = some false
  S_NoSign_NoChain : PySem.W.subIn K (.ref C_NoSign) (.ref C_NoChain) = some false
  S_NoSign_TooMany : PySem.W.subIn K (.ref C_NoSign) (.ref C_TooMany) = some false
  S_NoSign_NoForm : PySem.W.subIn K (.ref C_NoSign) (.ref C_NoForm) = some false
  S_NoSign_NoneYet : PySem.W.subIn K (.ref C_NoSign) (.ref C_NoneYet) = some false
  E_NoText : ExcC K C_NoText
  V_NoText : PySem.W.subIn K (.ref C_NoText) (.type "ValueError") = some true
  S_NoText_CoverError : PySem.W.subIn K (.ref C_NoText) (.ref C_CoverError) = some true
  S_NoText_NoWord : PySem.W.subIn K (.ref C_NoText) (.ref C_NoWord) = some false
  S_NoText_NoSign : PySem.W.subIn K (.ref C_NoText) (.ref C_NoSign) = some false
  S_NoText_NoText : PySem.W.subIn K (.ref C_NoText) (.ref C_NoText) = some true
  S_NoText_NoCover : PySem.W.subIn K (.ref C_NoText) (.ref C_NoCover) = some false
  S_NoText_NoNumber : PySem.W.subIn K (.ref C_NoText) (.ref C_NoNumber) = some false
  S_NoText_NoChain : PySem.W.subIn K (.ref C_NoText) (.ref C_NoChain) = some false
  S_NoText_TooMany : PySem.W.subIn K (.ref C_NoText) (.ref C_TooMany) = some false
  S_NoText_NoForm : PySem.W.subIn K (.ref C_NoText) (.ref C_NoForm) = some false
  S_NoText_NoneYet : PySem.W.subIn K (.ref C_NoText) (.ref C_NoneYet) = some false
  E_NoCover : ExcC K C_NoCover
  V_NoCover : PySem.W.subIn K (.ref C_NoCover) (.type "ValueError") = some true
  S_NoCover_CoverError : PySem.W.subIn K (.ref C_NoCover) (.ref C_CoverError) = some true
  S_NoCover_NoWord : PySem.W.subIn K (.ref C_NoCover) (.ref C_NoWord) = some false
  S_NoCover_NoSign : PySem.W.subIn K (.ref C_NoCover) (.ref C_NoSign) = some false
  S_NoCover_NoText : PySem.W.subIn K (.ref C_NoCover) (.ref C_NoText) = some false
  S_NoCover_NoCover : PySem.W.subIn K (.ref C_NoCover) (.ref C_NoCover) = some true
  S_NoCover_NoNumber : PySem.W.subIn K (.ref C_NoCover) (.ref C_NoNumber) = some false
  S_NoCover_NoChain : PySem.W.subIn K (.ref C_NoCover) (.ref C_NoChain) = some false
  S_NoCover_TooMany : PySem.W.subIn K (.ref C_NoCover) (.ref C_TooMany) = some false
  S_NoCover_NoForm : PySem.W.subIn K (.ref C_NoCover) (.ref C_NoForm) = some false
  S_NoCover_NoneYet : PySem.W.subIn K (.ref C_NoCover) (.ref C_NoneYet) = some false
  E_NoNumber : ExcC K C_NoNumber
  V_NoNumber : PySem.W.subIn K (.ref C_NoNumber) (.type "ValueError") = some true
  S_NoNumber_CoverError : PySem.W.subIn K (.ref C_NoNumber) (.ref C_CoverError) = some true
  S_NoNumber_NoWord : PySem.W.subIn K (.ref C_NoNumber) (.ref C_NoWord) = some false
  S_NoNumber_NoSign : PySem.W.subIn K (.ref C_NoNumber) (.ref C_NoSign) = some false
  S_NoNumber_NoText : PySem.W.subIn K (.ref C_NoNumber) (.ref C_NoText) = some false
  S_NoNumber_NoCover : PySem.W.subIn K (.ref C_NoNumber) (.ref C_NoCover) = some false
  S_NoNumber_NoNumber : PySem.W.subIn K (.ref C_NoNumber) (.ref C_NoNumber) = some true
  S_NoNumber_NoChain : PySem.W.subIn K (.ref C_NoNumber) (.ref C_NoChain) = some false
  S_NoNumber_TooMany : PySem.W.subIn K (.ref C_NoNumber) (.ref C_TooMany) = some false
  S_NoNumber_NoForm : PySem.W.subIn K (.ref C_NoNumber) (.ref C_NoForm) = some false
  S_NoNumber_NoneYet : PySem.W.subIn K (.ref C_NoNumber) (.ref C_NoneYet) = some false
  E_NoForm : ExcC K C_NoForm
  V_NoForm : PySem.W.subIn K (.ref C_NoForm) (.type "ValueError") = some true
  S_NoForm_CoverError : PySem.W.subIn K (.ref C_NoForm) (.ref C_CoverError) = some true
  S_NoForm_NoWord : PySem.W.subIn K (.ref C_NoForm) (.ref C_NoWord) = some false
  S_NoForm_NoSign : PySem.W.subIn K (.ref C_NoForm) (.ref C_NoSign) = some false
  S_NoForm_NoText : PySem.W.subIn K (.ref C_NoForm) (.ref C_NoText) = some false
  S_NoForm_NoCover : PySem.W.subIn K (.ref C_NoForm) (.ref C_NoCover) = some false
  S_NoForm_NoNumber : PySem.W.subIn K (.ref C_NoForm) (.ref C_NoNumber) = some false
  S_NoForm_NoChain : PySem.W.subIn K (.ref C_NoForm) (.ref C_NoChain) = some false
  S_NoForm_TooMany : PySem.W.subIn K (.ref C_NoForm) (.ref C_TooMany) = some false
  S_NoForm_NoForm : PySem.W.subIn K (.ref C_NoForm) (.ref C_NoForm) = some true
  S_NoForm_NoneYet : PySem.W.subIn K (.ref C_NoForm) (.ref C_NoneYet) = some false
  E_NoneYet : ExcC K C_NoneYet
  V_NoneYet : PySem.W.subIn K (.ref C_NoneYet) (.type "ValueError") = some true
  S_NoneYet_CoverError : PySem.W.subIn K (.ref C_NoneYet) (.ref C_CoverError) = some true
  S_NoneYet_NoWord : PySem.W.subIn K (.ref C_NoneYet) (.ref C_NoWord) = some false
  S_NoneYet_NoSign : PySem.W.subIn K (.ref C_NoneYet) (.ref C_NoSign) = some false
  S_NoneYet_NoText : PySem.W.subIn K (.ref C_NoneYet) (.ref C_NoText) = some false
  S_NoneYet_NoCover : PySem.W.subIn K (.ref C_NoneYet) (.ref C_NoCover) = some false
  S_NoneYet_NoNumber : PySem.W.subIn K (.ref C_NoneYet) (.ref C_NoNumber) = some false
  S_NoneYet_NoChain : PySem.W.subIn K (.ref C_NoneYet) (.ref C_NoChain) = some false
  S_NoneYet_TooMany : PySem.W.subIn K (.ref C_NoneYet) (.ref C_TooMany) = some false
  S_NoneYet_NoForm : PySem.W.subIn K (.ref C_NoneYet) (.ref C_NoForm) = some false
  S_NoneYet_NoneYet : PySem.W.subIn K (.ref C_NoneYet) (.ref C_NoneYet) = some true
section
variable {P : Program} {w : World} {K : PySem.W.Frag} {mg : Str → Option Value} {base : Heap}
theorem ok_Desk_init (T : Tp K mg) : FnOk P w K mg base CX0 1 T.fI_Desk T.dI_Desk [Str.ofString "self"] (spI T.C_Desk) := by
  refine T.FI_Desk.ok sc_Desk_init (fun vs H Q E h => ?_) (fun cdv A outer s H vs Q E hr h => ?_)
  · obtain ⟨p, dx, rfl, _⟩ := h
    rfl
  · obtain ⟨p, dx, rfl, hp, k⟩ := h
    exact ⟨_, pss_cons (ps_fld (pv 0) pe_non rfl) (pss_one (ps_fld (pv 0) pe_non rfl)), init_run hp T.cl_Desk T.nt_Desk T.nw_Desk k⟩
theorem ok_need_word (T : Tp K mg) : FnOk P w K mg base (L2N.CX P w) 1 T.f_need_word T.d_need_word ps_need_word (spP K (cvK K) 1 F_need_word) :=
  fn_P N_need_word ps_need_word 1 1 (cf_need_word K mg) B_need_word rfl rfl T.F_need_word sc_need_word rfl (fun i h1 => by
    match i, h1 with
    | 0, _ => exact rfl
    | i + 1, h => exact absurd h (by simp)) (fun cdv A outer s H E hr tk pw =>
  (sss_one (ss_if (st_eq rfl hr.units (se_vS 0 (pv 0) rfl) (se_lst (c := .V) sa_nil)) (sss_one (ss_raise rfl rfl rfl tk T.X_NoWord)) sss_nil)))
theorem ok_need_signs (T : Tp K mg) : FnOk P w K mg base (L2N.CX P w) 1 T.f_need_signs T.d_need_signs ps_need_signs (spP K (cvK K) 1 F_need_signs) :=
  fn_P N_need_signs ps_need_signs 2 1 (cf_need_signs K mg) B_need_signs rfl rfl T.F_need_signs sc_need_signs rfl (fun i h1 => by
    match i, h1 with
    | 0, _ => exact rfl
    | i + 1, h => exact absurd h (by simp)) (fun cdv A outer s H E hr tk pw =>
  (sss_one (ss_if (st_ne rfl hr.units (se_lc (c := .S) (own := [(Str.ofString "sign", 1)]) rfl (own1 rfl) rfl sc_need_signs.nd (SI.w (si_list rfl (se_vS 0 (pv 0) rfl))) (blkOk_by (own := [(Str.ofString "sign", 1)]) (N := N_need_signs) (sc := (defScope s_need_signs)) (by decide +kernel)) (fun _ _ _ _ _ => (sgt_name (i := 1) (is := [1]) List.mem_cons_self rfl sc_need_signs.nd rfl (Or.inl rfl))) (fun _ _ _ _ _ => (sts_one (st_or2 (st_ne rfl hr.units (se_len rfl T.m_len (sa_cons (se_vS 1 (pv 1) rfl) sa_nil)) se_int) (st_notIn rfl (se_vS 1 (pv 1) rfl) (se_glob (v := (.str (Str.ofString "abcdefghijklmnopqrstuvwxyz"))) (pe_glob (by rfl) T.g_LETTERS_borders ⟨_, rfl⟩) rfl))))) (fun _ _ _ _ _ => (se_vS 1 (pv 1) rfl))) (se_lst (c := .V) sa_nil)) (sss_one (ss_raise rfl rfl rfl tk T.X_NoSign)) sss_nil)))
theorem ok_need_text (T : Tp K mg) : FnOk P w K mg base (L2N.CX P w) 1 T.f_need_text T.d_need_text ps_need_text (spP K (cvK K) 1 F_need_text) :=
  fn_P N_need_text ps_need_text 1 1 (cf_need_text K mg) B_need_text rfl rfl T.F_need_text sc_need_text rfl (fun i h1 => by
    match i, h1 with
    | 0, _ => exact rfl
    | i + 1, h => exact absurd h (by simp)) (fun cdv A outer s H E hr tk pw =>
  (sss_one (ss_if (st_eq rfl hr.units (se_vS 0 (pv 0) rfl) (se_lst (c := .V) sa_nil)) (sss_one (ss_raise rfl rfl rfl tk T.X_NoText)) sss_nil)))
theorem ok_greatest_borders (T : Tp K mg) : FnOk P w K mg base (L2N.CX P w) 1 T.f_greatest_borders T.d_greatest_borders ps_greatest_borders (spP K (cvK K) 1 F_greatest_borders) :=
  fn_P N_greatest_borders ps_greatest_borders 5 1 (cf_greatest_borders K mg) B_greatest_borders rfl rfl T.F_greatest_borders sc_greatest_borders rfl (fun i h1 => by
    match i, h1 with
    | 0, _ => exact rfl
    | i + 1, h => exact absurd h (by simp)) (fun cdv A outer s H E hr tk pw =>
  (sss_cons (ss_setM (sg_of (i := 1) (se_lst (c := .V) sa_nil) sc_greatest_borders.nd rfl (Or.inl rfl)) rfl)
  (sss_cons (ss_setS (sg_of (i := 2) (SE.le se_int .vs) sc_greatest_borders.nd rfl (Or.inl rfl)) rfl)
  (sss_cons (ss_for pw rfl (si_enum rfl (by rfl) T.m_enumerate (sa_cons (se_vS 0 (pv 0) rfl) sa_nil)) (sgt_tup (is := [3, 4]) (js := [3, 4]) rfl rfl (sgts_cons (i := 3) (by decide) rfl sc_greatest_borders.nd rfl (Or.inl rfl) (sgts_cons (i := 4) (by decide) rfl sc_greatest_borders.nd rfl (Or.inl rfl) sgts_nil)) rfl) (sss_cons (ss_if (st_gt (se_vS 3 (pv 3) rfl) se_int) (sss_cons (ss_while WFUEL pw (st_and2 (st_gt (se_vS 2 (pv 2) rfl) se_int) (st_ne rfl hr.units (se_ix rfl (se_vS 0 (pv 0) rfl) (se_vS 2 (pv 2) rfl) (fun _ _ => rfl)) (se_vS 4 (pv 4) rfl))) (sss_one (ss_setS (sg_of (i := 2) (SE.le (SE.scal (se_ix rfl (se_vM 1 (pv 1) rfl) (SE.le (se_sub (se_vS 2 (pv 2) rfl) se_int) .vl) (fun _ _ => rfl))) .vs) sc_greatest_borders.nd rfl (Or.inl rfl)) rfl)))
  (sss_one (ss_iadd (i := 2) (Or.inl rfl) (se_int1 T.m_int (sa_cons (SE.le (se_eq rfl hr.units (se_ix rfl (se_vS 0 (pv 0) rfl) (se_vS 2 (pv 2) rfl) (fun _ _ => rfl)) (se_vS 4 (pv 4) rfl)) .vb) sa_nil)) sc_greatest_borders.nd rfl (Or.inl rfl)))) sss_nil)
  (sss_one (ss_app (i := 1) rfl (pv 1) rfl (SE.le (SE.scal (se_vS 2 (pv 2) rfl)) .vn)))))
  (sss_one (ss_ret (se_vM 1 (pv 1) rfl)))))))
theorem ok_laid_at (T : Tp K mg) : FnOk P w K mg base (L2N.CX P w) 1 T.f_laid_at T.d_laid_at ps_laid_at (spP K (cvK K) 2 F_laid_at) :=
  fn_P N_laid_at ps_laid_at 4 2 (cf_laid_at K mg) B_laid_at rfl rfl T.F_laid_at sc_laid_at rfl (fun i h1 => by
    match i, h1 with
    | 0, _ => exact rfl
    | 1, _ => exact rfl
    | i + 2, h => exact absurd h (by simp)) (fun cdv A outer s H E hr tk pw =>
  (sss_cons (ss_setS (sg_of (i := 2) (SE.le (se_len rfl T.m_len (sa_cons (se_vS 1 (pv 1) rfl) sa_nil)) .vs) sc_laid_at.nd rfl (Or.inr rfl)) rfl)
  (sss_one (ss_ret (SE.le (SE.flat (se_lc (c := .S) (own := [(Str.ofString "place", 3)]) rfl (own1 rfl) rfl sc_laid_at.nd (SI.w (si_range1 (by rfl) T.m_range (sa_cons (SE.le (se_add (se_sub (se_len rfl T.m_len (sa_cons (se_vS 0 (pv 0) rfl) sa_nil)) (se_vS 2 (pv 2) rfl)) se_int) .vb) sa_nil))) (blkOk_by (own := [(Str.ofString "place", 3)]) (N := N_laid_at) (sc := (defScope s_laid_at)) (by decide +kernel)) (fun _ _ _ _ _ => (sgt_name (i := 3) (is := [3]) List.mem_cons_self rfl sc_laid_at.nd rfl (Or.inl rfl))) (fun _ _ _ _ _ => (sts_one (st_eq rfl hr.units (se_sl rfl (se_vS 0 (pv 0) rfl) (so_some (se_vS 3 (pv 3) rfl)) (so_some (se_add (se_vS 3 (pv 3) rfl) (se_vS 2 (pv 2) rfl)))) (se_vS 1 (pv 1) rfl)))) (fun _ _ _ _ _ => (se_vS 3 (pv 3) rfl)))) .vl)))))
theorem ok_first_bare (T : Tp K mg) : FnOk P w K mg base (L2N.CX P w) 1 T.f_first_bare T.d_first_bare ps_first_bare (spP K (cvK K) 3 F_first_bare) :=
  fn_P N_first_bare ps_first_bare 5 3 (cf_first_bare K mg) B_first_bare rfl rfl T.F_first_bare sc_first_bare rfl (fun i h1 => by
    match i, h1 with
    | 0, _ => exact rfl
    | 1, _ => exact rfl
    | 2, _ => exact rfl
    | i + 3, h => exact absurd h (by simp)) (fun cdv A outer s H E hr tk pw =>
  (sss_cons (ss_setN (sg_of (i := 3) (SE.le se_int .vn) sc_first_bare.nd rfl (Or.inl rfl)) rfl)
  (sss_cons (ss_for pw rfl (si_list rfl (se_vS 1 (pv 1) rfl)) (sgt_name (i := 4) (is := [4]) List.mem_cons_self rfl sc_first_bare.nd rfl (Or.inl rfl)) (sss_one (ss_if (st_le (se_vS 4 (pv 4) rfl) (se_vN 3 (pv 3) rfl)) (sss_one (ss_setN (sg_of (i := 3) (SE.le (se_max2 rfl T.m_max (sa_cons (SE.le (se_vN 3 (pv 3) rfl) .nb) (sa_cons (SE.le (se_add (se_vS 4 (pv 4) rfl) (se_vS 0 (pv 0) rfl)) .sb) sa_nil))) .vn) sc_first_bare.nd rfl (Or.inl rfl)) rfl)) sss_nil)))
  (sss_cons (ss_if (st_lt (se_vN 3 (pv 3) rfl) (se_vS 2 (pv 2) rfl)) (sss_one (ss_ret (SE.le (se_vN 3 (pv 3) rfl) .nl))) sss_nil)
  (sss_one (ss_ret (SE.le se_non .vl)))))))
theorem ok_all_shifts (T : Tp K mg) : FnOk P w K mg base (L2N.CX P w) 1 T.f_all_shifts T.d_all_shifts ps_all_shifts (spP K (cvK K) 1 F_all_shifts) :=
  fn_P N_all_shifts ps_all_shifts 2 1 (cf_all_shifts K mg) B_all_shifts rfl rfl T.F_all_shifts sc_all_shifts rfl (fun i h1 => by
    match i, h1 with
    | 0, _ => exact rfl
    | i + 1, h => exact absurd h (by simp)) (fun cdv A outer s H E hr tk pw =>
  (sss_one (ss_ret (SE.le (SE.flat (se_lc (c := .S) (own := [(Str.ofString "far", 1)]) rfl (own1 rfl) rfl sc_all_shifts.nd (SI.w (si_range2 (by rfl) T.m_range (sa_cons (SE.le se_int .vb) (sa_cons (SE.le (se_add (se_len rfl T.m_len (sa_cons (se_vS 0 (pv 0) rfl) sa_nil)) se_int) .vb) sa_nil)))) (blkOk_by (own := [(Str.ofString "far", 1)]) (N := N_all_shifts) (sc := (defScope s_all_shifts)) (by decide +kernel)) (fun _ _ _ _ _ => (sgt_name (i := 1) (is := [1]) List.mem_cons_self rfl sc_all_shifts.nd rfl (Or.inl rfl))) (fun _ _ _ _ _ => (sts_one (st_eq rfl hr.units (se_sl rfl (se_vS 0 (pv 0) rfl) (so_some (se_vS 1 (pv 1) rfl)) so_none) (se_sl rfl (se_vS 0 (pv 0) rfl) so_none (so_some (se_sub (se_len rfl T.m_len (sa_cons (se_vS 0 (pv 0) rfl) sa_nil)) (se_vS 1 (pv 1) rfl))))))) (fun _ _ _ _ _ => (se_vS 1 (pv 1) rfl)))) .vl))))
theorem ok_misses (T : Tp K mg) : FnOk P w K mg base (L2N.CX P w) 1 T.f_misses T.d_misses ps_misses (spP K (cvK K) 2 F_misses) :=
  fn_P N_misses ps_misses 7 2 (cf_misses K mg) B_misses rfl rfl T.F_misses sc_misses rfl (fun i h1 => by
    match i, h1 with
    | 0, _ => exact rfl
    | 1, _ => exact rfl
    | i + 2, h => exact absurd h (by simp)) (fun cdv A outer s H E hr tk pw =>
  (sss_cons (ss_setM (sg_of (i := 2) (se_lst (c := .V) sa_nil) sc_misses.nd rfl (Or.inl rfl)) rfl)
  (sss_cons (ss_for pw rfl (si_range1 (by rfl) T.m_range (sa_cons (SE.le (se_add (se_sub (se_len rfl T.m_len (sa_cons (se_vS 0 (pv 0) rfl) sa_nil)) (se_len rfl T.m_len (sa_cons (se_vS 1 (pv 1) rfl) sa_nil))) se_int) .vb) sa_nil)) (sgt_name (i := 3) (is := [3]) List.mem_cons_self rfl sc_misses.nd rfl (Or.inl rfl)) (sss_cons (ss_setM (sg_of (i := 4) (se_lst (sa_cons se_int sa_nil)) sc_misses.nd rfl (Or.inl rfl)) rfl)
  (sss_cons (ss_for pw rfl (si_enum rfl (by rfl) T.m_enumerate (sa_cons (se_vS 1 (pv 1) rfl) sa_nil)) (sgt_tup (is := [5, 6]) (js := [5, 6]) rfl rfl (sgts_cons (i := 5) (by decide) rfl sc_misses.nd rfl (Or.inl rfl) (sgts_cons (i := 6) (by decide) rfl sc_misses.nd rfl (Or.inl rfl) sgts_nil)) rfl) (sss_one (ss_app (i := 4) rfl (pv 4) rfl (SE.le (SE.flat (se_add (se_ix rfl (se_vM 4 (pv 4) rfl) (SE.le (se_neg se_int) .vl) (fun _ _ => rfl)) (SE.le (se_int1 T.m_int (sa_cons (SE.le (se_ne rfl hr.units (se_ix rfl (se_vS 0 (pv 0) rfl) (se_add (se_vS 3 (pv 3) rfl) (se_vS 5 (pv 5) rfl)) (fun _ _ => rfl)) (se_vS 6 (pv 6) rfl)) .vb) sa_nil)) .vl))) .vn))))
  (sss_one (ss_appMv (i := 2) (j := 4) rfl (pv 2) rfl (pv 4) rfl)))))
  (sss_one (ss_ret (se_vM 2 (pv 2) rfl))))))
theorem ok_need_length (T : Tp K mg) : FnOk P w K mg base (L2N.CX P w) 1 T.f_need_length T.d_need_length ps_need_length (spP K (cvK K) 1 F_need_length) :=
  fn_P N_need_length ps_need_length 1 1 (cf_need_length K mg) B_need_length rfl rfl T.F_need_length sc_need_length rfl (fun i h1 => by
    match i, h1 with
    | 0, _ => exact rfl
    | i + 1, h => exact absurd h (by simp)) (fun cdv A outer s H E hr tk pw =>
  (sss_one (ss_if (st_not (st_chain op_le op_le se_int (se_vS 0 (pv 0) rfl) (se_glob (v := (.int 200)) (pe_glob (by rfl) T.g_MOST_SIGNS ⟨_, rfl⟩) rfl))) (sss_one (ss_raise rfl rfl rfl tk T.X_NoNumber)) sss_nil)))
theorem ok_hung_ahead (T : Tp K mg) : FnOk P w K mg base (L2N.CX P w) 1 T.f_hung_ahead T.d_hung_ahead ps_hung_ahead (spP K (cvK K) 2 F_hung_ahead) :=
  fn_P N_hung_ahead ps_hung_ahead 3 2 (cf_hung_ahead K mg) B_hung_ahead rfl rfl T.F_hung_ahead sc_hung_ahead rfl (fun i h1 => by
    match i, h1 with
    | 0, _ => exact rfl
    | 1, _ => exact rfl
    | i + 2, h => exact absurd h (by simp)) (fun cdv A outer s H E hr tk pw =>
  (sss_cons (ss_for pw rfl (si_range3 (by rfl) T.m_range (sa_cons (SE.le (se_min2 rfl T.m_min (sa_cons (SE.le (se_len rfl T.m_len (sa_cons (se_vS 0 (pv 0) rfl) sa_nil)) .vb) (sa_cons (SE.le (se_sub (se_len rfl T.m_len (sa_cons (se_vS 1 (pv 1) rfl) sa_nil)) se_int) .vb) sa_nil))) .vb) (sa_cons (SE.le se_int .vb) (sa_cons (SE.le (se_neg se_int) .vb) sa_nil)))) (sgt_name (i := 2) (is := [2]) List.mem_cons_self rfl sc_hung_ahead.nd rfl (Or.inl rfl)) (sss_one (ss_if (st_eq rfl hr.units (se_sl rfl (se_vS 1 (pv 1) rfl) (so_some (se_sub (se_len rfl T.m_len (sa_cons (se_vS 1 (pv 1) rfl) sa_nil)) (se_vS 2 (pv 2) rfl))) so_none) (se_sl rfl (se_vS 0 (pv 0) rfl) so_none (so_some (se_vS 2 (pv 2) rfl)))) (sss_one (ss_ret (SE.le (SE.scal (se_vS 2 (pv 2) rfl)) .vl))) sss_nil)))
  (sss_one (ss_ret (SE.le se_int .vl)))))
theorem ok_hung_behind (T : Tp K mg) : FnOk P w K mg base (L2N.CX P w) 1 T.f_hung_behind T.d_hung_behind ps_hung_behind (spP K (cvK K) 2 F_hung_behind) :=
  fn_P N_hung_behind ps_hung_behind 3 2 (cf_hung_behind K mg) B_hung_behind rfl rfl T.F_hung_behind sc_hung_behind rfl (fun i h1 => by
    match i, h1 with
    | 0, _ => exact rfl
    | 1, _ => exact rfl
    | i + 2, h => exact absurd h (by simp)) (fun cdv A outer s H E hr tk pw =>
  (sss_cons (ss_for pw rfl (si_range3 (by rfl) T.m_range (sa_cons (SE.le (se_min2 rfl T.m_min (sa_cons (SE.le (se_len rfl T.m_len (sa_cons (se_vS 0 (pv 0) rfl) sa_nil)) .vb) (sa_cons (SE.le (se_sub (se_len rfl T.m_len (sa_cons (se_vS 1 (pv 1) rfl) sa_nil)) se_int) .vb) sa_nil))) .vb) (sa_cons (SE.le se_int .vb) (sa_cons (SE.le (se_neg se_int) .vb) sa_nil)))) (sgt_name (i := 2) (is := [2]) List.mem_cons_self rfl sc_hung_behind.nd rfl (Or.inl rfl)) (sss_one (ss_if (st_eq rfl hr.units (se_sl rfl (se_vS 1 (pv 1) rfl) so_none (so_some (se_vS 2 (pv 2) rfl))) (se_sl rfl (se_vS 0 (pv 0) rfl) (so_some (se_sub (se_len rfl T.m_len (sa_cons (se_vS 0 (pv 0) rfl) sa_nil)) (se_vS 2 (pv 2) rfl))) so_none)) (sss_one (ss_ret (SE.le (SE.scal (se_vS 2 (pv 2) rfl)) .vl))) sss_nil)))
  (sss_one (ss_ret (SE.le se_int .vl)))))
theorem ok_are_letters (T : Tp K mg) : FnOk P w K mg base (L2N.CX P w) 1 T.f_are_letters T.d_are_letters ps_are_letters (spP K (cvK K) 1 F_are_letters) :=
  fn_P N_are_letters ps_are_letters 2 1 (cf_are_letters K mg) B_are_letters rfl rfl T.F_are_letters sc_are_letters rfl (fun i h1 => by
    match i, h1 with
    | 0, _ => exact rfl
    | i + 1, h => exact absurd h (by simp)) (fun cdv A outer s H E hr tk pw =>
  (sss_one (ss_ret (SE.le (se_and (se_ne rfl hr.units (se_vS 0 (pv 0) rfl) se_str) (se_one (se_eq rfl hr.units (se_lc (c := .S) (own := [(Str.ofString "sign", 1)]) rfl (own1 rfl) rfl sc_are_letters.nd (SI.w (si_str (se_vS 0 (pv 0) rfl))) (blkOk_by (own := [(Str.ofString "sign", 1)]) (N := N_are_letters) (sc := (defScope s_are_letters)) (by decide +kernel)) (fun _ _ _ _ _ => (sgt_name (i := 1) (is := [1]) List.mem_cons_self rfl sc_are_letters.nd rfl (Or.inl rfl))) (fun _ _ _ _ _ => (sts_one (st_notIn rfl (se_vS 1 (pv 1) rfl) (se_glob (v := (.str (Str.ofString "abcdefghijklmnopqrstuvwxyz"))) (pe_glob (by rfl) T.g_LETTERS_desk ⟨_, rfl⟩) rfl)))) (fun _ _ _ _ _ => (se_vS 1 (pv 1) rfl))) (se_lst (c := .V) sa_nil)))) .vl))))
theorem ok_is_length (T : Tp K mg) : FnOk P w K mg base (L2N.CX P w) 1 T.f_is_length T.d_is_length ps_is_length (spP K (cvK K) 1 F_is_length) :=
  fn_P N_is_length ps_is_length 2 1 (cf_is_length K mg) B_is_length rfl rfl T.F_is_length sc_is_length rfl (fun i h1 => by
    match i, h1 with
    | 0, _ => exact rfl
    | i + 1, h => exact absurd h (by simp)) (fun cdv A outer s H E hr tk pw =>
  (sss_cons (ss_if (st_or2 (st_not (st_chain op_le op_le se_int (se_len rfl T.m_len (sa_cons (se_vS 0 (pv 0) rfl) sa_nil)) se_int)) (st_ne rfl hr.units (se_lc (c := .S) (own := [(Str.ofString "sign", 1)]) rfl (own1 rfl) rfl sc_is_length.nd (SI.w (si_str (se_vS 0 (pv 0) rfl))) (blkOk_by (own := [(Str.ofString "sign", 1)]) (N := N_is_length) (sc := (defScope s_is_length)) (by decide +kernel)) (fun _ _ _ _ _ => (sgt_name (i := 1) (is := [1]) List.mem_cons_self rfl sc_is_length.nd rfl (Or.inl rfl))) (fun _ _ _ _ _ => (sts_one (st_notIn rfl (se_vS 1 (pv 1) rfl) (se_glob (v := (.str (Str.ofString "0123456789"))) (pe_glob (by rfl) T.g_FIGURES ⟨_, rfl⟩) rfl)))) (fun _ _ _ _ _ => (se_vS 1 (pv 1) rfl))) (se_lst (c := .V) sa_nil))) (sss_one (ss_ret (SE.le se_bl .vl))) sss_nil)
  (sss_one (ss_ret (SE.le (se_or (se_ne rfl hr.units (se_ix rfl (se_vS 0 (pv 0) rfl) (SE.le se_int .vs) (fun _ _ => rfl)) se_str) (se_one (se_eq rfl hr.units (se_vS 0 (pv 0) rfl) se_str))) .vl)))))
theorem ok_numbers_text (T : Tp K mg) : FnOk P w K mg base (L2N.CX P w) 1 T.f_numbers_text T.d_numbers_text ps_numbers_text (spP K (cvK K) 1 F_numbers_text) :=
  fn_P N_numbers_text ps_numbers_text 2 1 (cf_numbers_text K mg) B_numbers_text rfl rfl T.F_numbers_text sc_numbers_text rfl (fun i h1 => by
    match i, h1 with
    | 0, _ => exact rfl
    | i + 1, h => exact absurd h (by simp)) (fun cdv A outer s H E hr tk pw =>
  (sss_cons (ss_if (st_eq rfl hr.units (se_vS 0 (pv 0) rfl) (se_lst (c := .V) sa_nil)) (sss_one (ss_ret (SE.le se_str .vl))) sss_nil)
  (sss_one (ss_ret (SE.le (se_join rfl se_str (sa_cons (se_lc (c := .V) (own := [(Str.ofString "number", 1)]) rfl (own1 rfl) rfl sc_numbers_text.nd (SI.w (si_list rfl (se_vS 0 (pv 0) rfl))) (blkOk_by (own := [(Str.ofString "number", 1)]) (N := N_numbers_text) (sc := (defScope s_numbers_text)) (by decide +kernel)) (fun _ _ _ _ _ => (sgt_name (i := 1) (is := [1]) List.mem_cons_self rfl sc_numbers_text.nd rfl (Or.inl rfl))) (fun _ _ _ _ _ => sts_nil) (fun _ _ _ _ _ => (se_strI T.m_str (sa_cons (SE.le (se_vS 1 (pv 1) rfl) .sb) sa_nil)))) sa_nil)) .vl)))))
theorem ok_Desk_need_told (T : Tp K mg) : FnOk P w K mg base (L2N.CX P w) 1 T.f_Desk_need_told T.d_Desk_need_told ps_Desk_need_told (spD K (cvK K) T.C_Desk 3 F_Desk_need_told) :=
  fn_D N_Desk_need_told ps_Desk_need_told 3 3 (cf_Desk_need_told K mg) B_Desk_need_told rfl rfl T.F_Desk_need_told sc_Desk_need_told rfl rfl (fun i h1 h2 => by
    match i, h1, h2 with
    | 1, _, _ => exact rfl
    | 2, _, _ => exact rfl
    | i + 3, _, h => exact absurd h (by simp)) T.ob (fun cdv A outer s H E hr tk pw =>
  (sss_one (ss_if (st_or2 (st_and2 (st_tru rfl (se_vS 1 (pv 1) rfl)) (st_isN (se_fld false rfl (pv 0) rfl T.ob T.cl_Desk T.nt_Desk) se_non)) (st_and2 (st_tru rfl (se_vS 2 (pv 2) rfl)) (st_isN (se_fld true rfl (pv 0) rfl T.ob T.cl_Desk T.nw_Desk) se_non))) (sss_one (ss_raise rfl rfl rfl tk T.X_NoneYet)) sss_nil)))
theorem ok__law_cell_at (T : Tp K mg) : FnOk P w K mg base (L2N.CX P w) 1 T.f__law_cell_at T.d__law_cell_at ps__law_cell_at (spQ K (cvK K) 2 F__law_cell_at) :=
  fn_Q N__law_cell_at ps__law_cell_at 2 2 (cf__law_cell_at K mg) B__law_cell_at rfl rfl T.F__law_cell_at sc__law_cell_at rfl rfl (fun i h1 h2 => by
    match i, h1, h2 with
    | 1, _, _ => exact rfl
    | i + 2, _, h => exact absurd h (by simp)) (fun cdv A outer s H E hr tk pw =>
  (sss_cons (ss_if (st_lt (se_vS 1 (pv 1) rfl) (se_lenQ rfl T.m_len (pv 0) rfl)) (sss_one (ss_ret (SE.le (se_ixQ rfl (pv 0) rfl (se_vS 1 (pv 1) rfl) (fun _ _ => rfl)) .vl))) sss_nil)
  (sss_one (ss_ret (SE.le se_int .vl)))))
theorem ok__law_stir (T : Tp K mg) : FnOk P w K mg base (L2N.CX P w) 1 T.f__law_stir T.d__law_stir ps__law_stir (spP K (cvK K) 2 F__law_stir) :=
  fn_P N__law_stir ps__law_stir 3 2 (cf__law_stir K mg) B__law_stir rfl rfl T.F__law_stir sc__law_stir rfl (fun i h1 => by
    match i, h1 with
    | 0, _ => exact rfl
    | 1, _ => exact rfl
    | i + 2, h => exact absurd h (by simp)) (fun cdv A outer s H E hr tk pw =>
  (sss_cons (ss_setS (sg_of (i := 2) (se_add (se_add (SE.le (se_mod (se_vS 0 (pv 0) rfl) (se_pow se_int se_int)) .vs) (se_mul (SE.le se_int .vs) (se_vS 1 (pv 1) rfl))) (SE.le se_int .vs)) sc__law_stir.nd rfl (Or.inl rfl)) rfl)
  (sss_one (ss_ret (SE.le (se_mod (se_fdiv (se_mul (se_mul (se_vS 2 (pv 2) rfl) (se_add (se_vS 2 (pv 2) rfl) (se_mul (SE.le se_int .vs) (se_vS 1 (pv 1) rfl)))) (se_add (se_vS 2 (pv 2) rfl) (SE.le se_int .vs))) se_int) (se_pow se_int se_int)) .vl)))))
theorem ok__law_class (T : Tp K mg) : FnQ P w K mg base 1 T.f__law_class T.d__law_class ps__law_class (spP K (cvK K) 1 F__law_class) :=
  fn_Hot N__law_class ps__law_class 2 1 (cf__law_class K mg) B__law_class rfl rfl T.F__law_class sc__law_class rfl (fun i h1 => by
    match i, h1 with
    | 0, _ => exact rfl
    | i + 1, h => exact absurd h (by simp)) (fun cdv A outer s H E hr tk pw =>
  (sss_cons (ss_setS (sg_of (i := 1) (SE.le (se_lst (sa_cons (se_isX (cs := [(Str.ofString "NoWord"), (Str.ofString "NoSign"), (Str.ofString "NoText"), (Str.ofString "NoCover"), (Str.ofString "NoNumber"), (Str.ofString "NoForm"), (Str.ofString "NoneYet")]) (T := (Str.ofString "NoWord")) rfl T.m_isinstance (ClsV.own T.C_NoWord) (List.forall_mem_cons.mpr ⟨⟨T.C_NoWord, T.X_NoWord.cv, T.E_NoWord, (kit_own T.X_NoWord.d T.X_NoWord.t T.X_NoWord.s T.S_NoWord_NoWord)⟩, (List.forall_mem_cons.mpr ⟨⟨T.C_NoSign, T.X_NoSign.cv, T.E_NoSign, (kit_own T.X_NoWord.d T.X_NoWord.t T.X_NoWord.s T.S_NoSign_NoWord)⟩, (List.forall_mem_cons.mpr ⟨⟨T.C_NoText, T.X_NoText.cv, T.E_NoText, (kit_own T.X_NoWord.d T.X_NoWord.t T.X_NoWord.s T.S_NoText_NoWord)⟩, (List.forall_mem_cons.mpr ⟨⟨T.C_NoCover, T.X_NoCover.cv, T.E_NoCover, (kit_own T.X_NoWord.d T.X_NoWord.t T.X_NoWord.s T.S_NoCover_NoWord)⟩, (List.forall_mem_cons.mpr ⟨⟨T.C_NoNumber, T.X_NoNumber.cv, T.E_NoNumber, (kit_own T.X_NoWord.d T.X_NoWord.t T.X_NoWord.s T.S_NoNumber_NoWord)⟩, (List.forall_mem_cons.mpr ⟨⟨T.C_NoForm, T.X_NoForm.cv, T.E_NoForm, (kit_own T.X_NoWord.d T.X_NoWord.t T.X_NoWord.s T.S_NoForm_NoWord)⟩, (List.forall_mem_cons.mpr ⟨⟨T.C_NoneYet, T.X_NoneYet.cv, T.E_NoneYet, (kit_own T.X_NoWord.d T.X_NoWord.t T.X_NoWord.s T.S_NoneYet_NoWord)⟩, (fun _ h => nomatch h)⟩)⟩)⟩)⟩)⟩)⟩)⟩) (se_vS 0 (pv 0) rfl) (pe_glob (v := .ref T.C_NoWord) rfl T.X_NoWord.g rfl)) (sa_cons (se_isX (cs := [(Str.ofString "NoWord"), (Str.ofString "NoSign"), (Str.ofString "NoText"), (Str.ofString "NoCover"), (Str.ofString "NoNumber"), (Str.ofString "NoForm"), (Str.ofString "NoneYet")]) (T := (Str.ofString "NoSign")) rfl T.m_isinstance (ClsV.own T.C_NoSign) (List.forall_mem_cons.mpr ⟨⟨T.C_NoWord, T.X_NoWord.cv, T.E_NoWord, (kit_own T.X_NoSign.d T.X_NoSign.t T.X_NoSign.s T.S_NoWord_NoSign)⟩, (List.forall_mem_cons.mpr ⟨⟨T.C_NoSign, T.X_NoSign.cv, T.E_NoSign, (kit_own T.X_NoSign.d T.X_NoSign.t T.X_NoSign.s T.S_NoSign_NoSign)⟩, (List.forall_mem_cons.mpr ⟨⟨T.C_NoText, T.X_NoText.cv, T.E_NoText, (kit_own T.X_NoSign.d T.X_NoSign.t T.X_NoSign.s T.S_NoText_NoSign)⟩, (List.forall_mem_cons.mpr ⟨⟨T.C_NoCover, T.X_NoCover.cv, T.E_NoCover, (kit_own T.X_NoSign.d T.X_NoSign.t T.X_NoSign.s T.S_NoCover_NoSign)⟩, (List.forall_mem_cons.mpr ⟨⟨T.C_NoNumber, T.X_NoNumber.cv, T.E_NoNumber, (kit_own T.X_NoSign.d T.X_NoSign.t T.X_NoSign.s T.S_NoNumber_NoSign)⟩, (List.forall_mem_cons.mpr ⟨⟨T.C_NoForm, T.X_NoForm.cv, T.E_NoForm, (kit_own T.X_NoSign.d T.X_NoSign.t T.X_NoSign.s T.S_NoForm_NoSign)⟩, (List.forall_mem_cons.mpr ⟨⟨T.C_NoneYet, T.X_NoneYet.cv, T.E_NoneYet, (kit_own T.X_NoSign.d T.X_NoSign.t T.X_NoSign.s T.S_NoneYet_NoSign)⟩, (fun _ h => nomatch h)⟩)⟩)⟩)⟩)⟩)⟩)⟩) (se_vS 0 (pv 0) rfl) (pe_glob (v := .ref T.C_NoSign) rfl T.X_NoSign.g rfl)) (sa_cons (se_isX (cs := [(Str.ofString "NoWord"), (Str.ofString "NoSign"), (Str.ofString "NoText"), (Str.ofString "NoCover"), (Str.ofString "NoNumber"), (Str.ofString "NoForm"), (Str.ofString "NoneYet")]) (T := (Str.ofString "NoText")) rfl T.m_isinstance (ClsV.own T.C_NoText) (List.forall_mem_cons.mpr ⟨⟨T.C_NoWord, T.X_NoWord.cv, T.E_NoWord, (kit_own T.X_NoText.d T.X_NoText.t T.X_NoText.s T.S_NoWord_NoText)⟩, (List.forall_mem_cons.mpr ⟨⟨T.C_NoSign, T.X_NoSign.cv, T.E_NoSign, (kit_own T.X_NoText.d T.X_NoText.t T.X_NoText.s T.S_NoSign_NoText)⟩, (List.forall_mem_cons.mpr ⟨⟨T.C_NoText, T.X_NoText.cv, T.E_NoText, (kit_own T.X_NoText.d T.X_NoText.t T.X_NoText.s T.S_NoText_NoText)⟩, (List.forall_mem_cons.mpr ⟨⟨T.C_NoCover, T.X_NoCover.cv, T.E_NoCover, (kit_own T.X_NoText.d T.X_NoText.t T.X_NoText.s T.S_NoCover_NoText)⟩, (List.forall_mem_cons.mpr ⟨⟨T.C_NoNumber, T.X_NoNumber.cv, T.E_NoNumber, (kit_own T.X_NoText.d T.X_NoText.t T.X_NoText.s T.S_NoNumber_NoText)⟩, (List.forall_mem_cons.mpr ⟨⟨T.C_NoForm, T.X_NoForm.cv, T.E_NoForm, (kit_own T.X_NoText.d T.X_NoText.t T.X_NoText.s T.S_NoForm_NoText)⟩, (List.forall_mem_cons.mpr ⟨⟨T.C_NoneYet, T.X_NoneYet.cv, T.E_NoneYet, (kit_own T.X_NoText.d T.X_NoText.t T.X_NoText.s T.S_NoneYet_NoText)⟩, (fun _ h => nomatch h)⟩)⟩)⟩)⟩)⟩)⟩)⟩) (se_vS 0 (pv 0) rfl) (pe_glob (v := .ref T.C_NoText) rfl T.X_NoText.g rfl)) (sa_cons (se_isX (cs := [(Str.ofString "NoWord"), (Str.ofString "NoSign"), (Str.ofString "NoText"), (Str.ofString "NoCover"), (Str.ofString "NoNumber"), (Str.ofString "NoForm"), (Str.ofString "NoneYet")]) (T := (Str.ofString "TooMany")) rfl T.m_isinstance (ClsV.own T.C_TooMany) (List.forall_mem_cons.mpr ⟨⟨T.C_NoWord, T.X_NoWord.cv, T.E_NoWord, (kit_own T.X_TooMany.d T.X_TooMany.t T.X_TooMany.s T.S_NoWord_TooMany)⟩, (List.forall_mem_cons.mpr ⟨⟨T.C_NoSign, T.X_NoSign.cv, T.E_NoSign, (kit_own T.X_TooMany.d T.X_TooMany.t T.X_TooMany.s T.S_NoSign_TooMany)⟩, (List.forall_mem_cons.mpr ⟨⟨T.C_NoText, T.X_NoText.cv, T.E_NoText, (kit_own T.X_TooMany.d T.X_TooMany.t T.X_TooMany.s T.S_NoText_TooMany)⟩, (List.forall_mem_cons.mpr ⟨⟨T.C_NoCover, T.X_NoCover.cv, T.E_NoCover, (kit_own T.X_TooMany.d T.X_TooMany.t T.X_TooMany.s T.S_NoCover_TooMany)⟩, (List.forall_mem_cons.mpr ⟨⟨T.C_NoNumber, T.X_NoNumber.cv, T.E_NoNumber, (kit_own T.X_TooMany.d T.X_TooMany.t T.X_TooMany.s T.S_NoNumber_TooMany)⟩, (List.forall_mem_cons.mpr ⟨⟨T.C_NoForm, T.X_NoForm.cv, T.E_NoForm, (kit_own T.X_TooMany.d T.X_TooMany.t T.X_TooMany.s T.S_NoForm_TooMany)⟩, (List.forall_mem_cons.mpr ⟨⟨T.C_NoneYet, T.X_NoneYet.cv, T.E_NoneYet, (kit_own T.X_TooMany.d T.X_TooMany.t T.X_TooMany.s T.S_NoneYet_TooMany)⟩, (fun _ h => nomatch h)⟩)⟩)⟩)⟩)⟩)⟩)⟩) (se_vS 0 (pv 0) rfl) (pe_glob (v := .ref T.C_TooMany) rfl T.X_TooMany.g rfl)) sa_nil))))) .vs) sc__law_class.nd rfl (Or.inl rfl)) rfl)
  (sss_cons (ss_setS (sg_of (i := 1) (se_add (se_vS 1 (pv 1) rfl) (SE.le (se_lst (sa_cons (se_isX (cs := [(Str.ofString "NoWord"), (Str.ofString "NoSign"), (Str.ofString "NoText"), (Str.ofString "NoCover"), (Str.ofString "NoNumber"), (Str.ofString "NoForm"), (Str.ofString "NoneYet")]) (T := (Str.ofString "NoChain")) rfl T.m_isinstance (ClsV.own T.C_NoChain) (List.forall_mem_cons.mpr ⟨⟨T.C_NoWord, T.X_NoWord.cv, T.E_NoWord, (kit_own T.X_NoChain.d T.X_NoChain.t T.X_NoChain.s T.S_NoWord_NoChain)⟩, (List.forall_mem_cons.mpr ⟨⟨T.C_NoSign, T.X_NoSign.cv, T.E_NoSign, (kit_own T.X_NoChain.d T.X_NoChain.t T.X_NoChain.s T.S_NoSign_NoChain)⟩, (List.forall_mem_cons.mpr ⟨⟨T.C_NoText, T.X_NoText.cv, T.E_NoText, (kit_own T.X_NoChain.d T.X_NoChain.t T.X_NoChain.s T.S_NoText_NoChain)⟩, (List.forall_mem_cons.mpr ⟨⟨T.C_NoCover, T.X_NoCover.cv, T.E_NoCover, (kit_own T.X_NoChain.d T.X_NoChain.t T.X_NoChain.s T.S_NoCover_NoChain)⟩, (List.forall_mem_cons.mpr ⟨⟨T.C_NoNumber, T.X_NoNumber.cv, T.E_NoNumber, (kit_own T.X_NoChain.d T.X_NoChain.t T.X_NoChain.s T.S_NoNumber_NoChain)⟩, (List.forall_mem_cons.mpr ⟨⟨T.C_NoForm, T.X_NoForm.cv, T.E_NoForm, (kit_own T.X_NoChain.d T.X_NoChain.t T.X_NoChain.s T.S_NoForm_NoChain)⟩, (List.forall_mem_cons.mpr ⟨⟨T.C_NoneYet, T.X_NoneYet.cv, T.E_NoneYet, (kit_own T.X_NoChain.d T.X_NoChain.t T.X_NoChain.s T.S_NoneYet_NoChain)⟩, (fun _ h => nomatch h)⟩)⟩)⟩)⟩)⟩)⟩)⟩) (se_vS 0 (pv 0) rfl) (pe_glob (v := .ref T.C_NoChain) rfl T.X_NoChain.g rfl)) (sa_cons (se_isX (cs := [(Str.ofString "NoWord"), (Str.ofString "NoSign"), (Str.ofString "NoText"), (Str.ofString "NoCover"), (Str.ofString "NoNumber"), (Str.ofString "NoForm"), (Str.ofString "NoneYet")]) (T := (Str.ofString "NoCover")) rfl T.m_isinstance (ClsV.own T.C_NoCover) (List.forall_mem_cons.mpr ⟨⟨T.C_NoWord, T.X_NoWord.cv, T.E_NoWord, (kit_own T.X_NoCover.d T.X_NoCover.t T.X_NoCover.s T.S_NoWord_NoCover)⟩, (List.forall_mem_cons.mpr ⟨⟨T.C_NoSign, T.X_NoSign.cv, T.E_NoSign, (kit_own T.X_NoCover.d T.X_NoCover.t T.X_NoCover.s T.S_NoSign_NoCover)⟩, (List.forall_mem_cons.mpr ⟨⟨T.C_NoText, T.X_NoText.cv, T.E_NoText, (kit_own T.X_NoCover.d T.X_NoCover.t T.X_NoCover.s T.S_NoText_NoCover)⟩, (List.forall_mem_cons.mpr ⟨⟨T.C_NoCover, T.X_NoCover.cv, T.E_NoCover, (kit_own T.X_NoCover.d T.X_NoCover.t T.X_NoCover.s T.S_NoCover_NoCover)⟩, (List.forall_mem_cons.mpr ⟨⟨T.C_NoNumber, T.X_NoNumber.cv, T.E_NoNumber, (kit_own T.X_NoCover.d T.X_NoCover.t T.X_NoCover.s T.S_NoNumber_NoCover)⟩, (List.forall_mem_cons.mpr ⟨⟨T.C_NoForm, T.X_NoForm.cv, T.E_NoForm, (kit_own T.X_NoCover.d T.X_NoCover.t T.X_NoCover.s T.S_NoForm_NoCover)⟩, (List.forall_mem_cons.mpr ⟨⟨T.C_NoneYet, T.X_NoneYet.cv, T.E_NoneYet, (kit_own T.X_NoCover.d T.X_NoCover.t T.X_NoCover.s T.S_NoneYet_NoCover)⟩, (fun _ h => nomatch h)⟩)⟩)⟩)⟩)⟩)⟩)⟩) (se_vS 0 (pv 0) rfl) (pe_glob (v := .ref T.C_NoCover) rfl T.X_NoCover.g rfl)) (sa_cons (se_isX (cs := [(Str.ofString "NoWord"), (Str.ofString "NoSign"), (Str.ofString "NoText"), (Str.ofString "NoCover"), (Str.ofString "NoNumber"), (Str.ofString "NoForm"), (Str.ofString "NoneYet")]) (T := (Str.ofString "NoForm")) rfl T.m_isinstance (ClsV.own T.C_NoForm) (List.forall_mem_cons.mpr ⟨⟨T.C_NoWord, T.X_NoWord.cv, T.E_NoWord, (kit_own T.X_NoForm.d T.X_NoForm.t T.X_NoForm.s T.S_NoWord_NoForm)⟩, (List.forall_mem_cons.mpr ⟨⟨T.C_NoSign, T.X_NoSign.cv, T.E_NoSign, (kit_own T.X_NoForm.d T.X_NoForm.t T.X_NoForm.s T.S_NoSign_NoForm)⟩, (List.forall_mem_cons.mpr ⟨⟨T.C_NoText, T.X_NoText.cv, T.E_NoText, (kit_own T.X_NoForm.d T.X_NoForm.t T.X_NoForm.s T.S_NoText_NoForm)⟩, (List.forall_mem_cons.mpr ⟨⟨T.C_NoCover, T.X_NoCover.cv, T.E_NoCover, (kit_own T.X_NoForm.d T.X_NoForm.t T.X_NoForm.s T.S_NoCover_NoForm)⟩, (List.forall_mem_cons.mpr ⟨⟨T.C_NoNumber, T.X_NoNumber.cv, T.E_NoNumber, (kit_own T.X_NoForm.d T.X_NoForm.t T.X_NoForm.s T.S_NoNumber_NoForm)⟩, (List.forall_mem_cons.mpr ⟨⟨T.C_NoForm, T.X_NoForm.cv, T.E_NoForm, (kit_own T.X_NoForm.d T.X_NoForm.t T.X_NoForm.s T.S_NoForm_NoForm)⟩, (List.forall_mem_cons.mpr ⟨⟨T.C_NoneYet, T.X_NoneYet.cv, T.E_NoneYet, (kit_own T.X_NoForm.d T.X_NoForm.t T.X_NoForm.s T.S_NoneYet_NoForm)⟩, (fun _ h => nomatch h)⟩)⟩)⟩)⟩)⟩)⟩)⟩) (se_vS 0 (pv 0) rfl) (pe_glob (v := .ref T.C_NoForm) rfl T.X_NoForm.g rfl)) (sa_cons (se_isX (cs := [(Str.ofString "NoWord"), (Str.ofString "NoSign"), (Str.ofString "NoText"), (Str.ofString "NoCover"), (Str.ofString "NoNumber"), (Str.ofString "NoForm"), (Str.ofString "NoneYet")]) (T := (Str.ofString "NoNumber")) rfl T.m_isinstance (ClsV.own T.C_NoNumber) (List.forall_mem_cons.mpr ⟨⟨T.C_NoWord, T.X_NoWord.cv, T.E_NoWord, (kit_own T.X_NoNumber.d T.X_NoNumber.t T.X_NoNumber.s T.S_NoWord_NoNumber)⟩, (List.forall_mem_cons.mpr ⟨⟨T.C_NoSign, T.X_NoSign.cv, T.E_NoSign, (kit_own T.X_NoNumber.d T.X_NoNumber.t T.X_NoNumber.s T.S_NoSign_NoNumber)⟩, (List.forall_mem_cons.mpr ⟨⟨T.C_NoText, T.X_NoText.cv, T.E_NoText, (kit_own T.X_NoNumber.d T.X_NoNumber.t T.X_NoNumber.s T.S_NoText_NoNumber)⟩, (List.forall_mem_cons.mpr ⟨⟨T.C_NoCover, T.X_NoCover.cv, T.E_NoCover, (kit_own T.X_NoNumber.d T.X_NoNumber.t T.X_NoNumber.s T.S_NoCover_NoNumber)⟩, (List.forall_mem_cons.mpr ⟨⟨T.C_NoNumber, T.X_NoNumber.cv, T.E_NoNumber, (kit_own T.X_NoNumber.d T.X_NoNumber.t T.X_NoNumber.s T.S_NoNumber_NoNumber)⟩, (List.forall_mem_cons.mpr ⟨⟨T.C_NoForm, T.X_NoForm.cv, T.E_NoForm, (kit_own T.X_NoNumber.d T.X_NoNumber.t T.X_NoNumber.s T.S_NoForm_NoNumber)⟩, (List.forall_mem_cons.mpr ⟨⟨T.C_NoneYet, T.X_NoneYet.cv, T.E_NoneYet, (kit_own T.X_NoNumber.d T.X_NoNumber.t T.X_NoNumber.s T.S_NoneYet_NoNumber)⟩, (fun _ h => nomatch h)⟩)⟩)⟩)⟩)⟩)⟩)⟩) (se_vS 0 (pv 0) rfl) (pe_glob (v := .ref T.C_NoNumber) rfl T.X_NoNumber.g rfl)) sa_nil))))) .vs)) sc__law_class.nd rfl (Or.inl rfl)) rfl)
  (sss_one (ss_ret (SE.le (SE.flat (se_add (se_vS 1 (pv 1) rfl) (SE.le (se_lst (sa_cons (se_isX (cs := [(Str.ofString "NoWord"), (Str.ofString "NoSign"), (Str.ofString "NoText"), (Str.ofString "NoCover"), (Str.ofString "NoNumber"), (Str.ofString "NoForm"), (Str.ofString "NoneYet")]) (T := (Str.ofString "NoneYet")) rfl T.m_isinstance (ClsV.own T.C_NoneYet) (List.forall_mem_cons.mpr ⟨⟨T.C_NoWord, T.X_NoWord.cv, T.E_NoWord, (kit_own T.X_NoneYet.d T.X_NoneYet.t T.X_NoneYet.s T.S_NoWord_NoneYet)⟩, (List.forall_mem_cons.mpr ⟨⟨T.C_NoSign, T.X_NoSign.cv, T.E_NoSign, (kit_own T.X_NoneYet.d T.X_NoneYet.t T.X_NoneYet.s T.S_NoSign_NoneYet)⟩, (List.forall_mem_cons.mpr ⟨⟨T.C_NoText, T.X_NoText.cv, T.E_NoText, (kit_own T.X_NoneYet.d T.X_NoneYet.t T.X_NoneYet.s T.S_NoText_NoneYet)⟩, (List.forall_mem_cons.mpr ⟨⟨T.C_NoCover, T.X_NoCover.cv, T.E_NoCover, (kit_own T.X_NoneYet.d T.X_NoneYet.t T.X_NoneYet.s T.S_NoCover_NoneYet)⟩, (List.forall_mem_cons.mpr ⟨⟨T.C_NoNumber, T.X_NoNumber.cv, T.E_NoNumber, (kit_own T.X_NoneYet.d T.X_NoneYet.t T.X_NoneYet.s T.S_NoNumber_NoneYet)⟩, (List.forall_mem_cons.mpr ⟨⟨T.C_NoForm, T.X_NoForm.cv, T.E_NoForm, (kit_own T.X_NoneYet.d T.X_NoneYet.t T.X_NoneYet.s T.S_NoForm_NoneYet)⟩, (List.forall_mem_cons.mpr ⟨⟨T.C_NoneYet, T.X_NoneYet.cv, T.E_NoneYet, (kit_own T.X_NoneYet.d T.X_NoneYet.t T.X_NoneYet.s T.S_NoneYet_NoneYet)⟩, (fun _ h => nomatch h)⟩)⟩)⟩)⟩)⟩)⟩)⟩) (se_vS 0 (pv 0) rfl) (pe_glob (v := .ref T.C_NoneYet) rfl T.X_NoneYet.g rfl)) (sa_cons (se_not (n := true) (se_isX (cs := [(Str.ofString "NoWord"), (Str.ofString "NoSign"), (Str.ofString "NoText"), (Str.ofString "NoCover"), (Str.ofString "NoNumber"), (Str.ofString "NoForm"), (Str.ofString "NoneYet")]) (T := (Str.ofString "ValueError")) rfl T.m_isinstance (ClsV.ty "ValueError") (List.forall_mem_cons.mpr ⟨⟨T.C_NoWord, T.X_NoWord.cv, T.E_NoWord, (kit_blt (by decide +kernel) T.V_NoWord)⟩, (List.forall_mem_cons.mpr ⟨⟨T.C_NoSign, T.X_NoSign.cv, T.E_NoSign, (kit_blt (by decide +kernel) T.V_NoSign)⟩, (List.forall_mem_cons.mpr ⟨⟨T.C_NoText, T.X_NoText.cv, T.E_NoText, (kit_blt (by decide +kernel) T.V_NoText)⟩, (List.forall_mem_cons.mpr ⟨⟨T.C_NoCover, T.X_NoCover.cv, T.E_NoCover, (kit_blt (by decide +kernel) T.V_NoCover)⟩, (List.forall_mem_cons.mpr ⟨⟨T.C_NoNumber, T.X_NoNumber.cv, T.E_NoNumber, (kit_blt (by decide +kernel) T.V_NoNumber)⟩, (List.forall_mem_cons.mpr ⟨⟨T.C_NoForm, T.X_NoForm.cv, T.E_NoForm, (kit_blt (by decide +kernel) T.V_NoForm)⟩, (List.forall_mem_cons.mpr ⟨⟨T.C_NoneYet, T.X_NoneYet.cv, T.E_NoneYet, (kit_blt (by decide +kernel) T.V_NoneYet)⟩, (fun _ h => nomatch h)⟩)⟩)⟩)⟩)⟩)⟩)⟩) (se_vS 0 (pv 0) rfl) (pe_bltn (v := .ty "ValueError") rfl T.m_ValueError (by decide +kernel) rfl))) sa_nil))) .vs))) .vl))))))
theorem ok__law_menu (T : Tp K mg) : FnOk P w K mg base (L2N.CX P w) 1 T.f__law_menu T.d__law_menu ps__law_menu (spP K (cvK K) 0 F__law_menu_v2) :=
  fn_P N__law_menu ps__law_menu 1 0 (cf__law_menu K mg) B__law_menu_v2 rfl rfl T.F__law_menu sc__law_menu rfl (fun i h1 => by
    match i, h1 with
    | i + 0, h => exact absurd h (by simp)) (fun cdv A outer s H E hr tk pw =>
  (sss_cons (ss_setN (sg_of (i := 0) (SE.le (se_lst (sa_cons se_str (sa_cons se_str (sa_cons se_str (sa_cons se_str (sa_cons se_str (sa_cons se_str sa_nil))))))) .vn) sc__law_menu.nd rfl (Or.inl rfl)) rfl)
  (sss_cons (ss_setN (sg_of (i := 0) (se_add (se_vN 0 (pv 0) rfl) (SE.le (se_lst (sa_cons se_str (sa_cons se_str (sa_cons se_str (sa_cons se_str (sa_cons se_str (sa_cons se_str sa_nil))))))) .vn)) sc__law_menu.nd rfl (Or.inl rfl)) rfl)
  (sss_cons (ss_setN (sg_of (i := 0) (se_add (se_vN 0 (pv 0) rfl) (SE.le (se_lst (sa_cons se_str (sa_cons se_str (sa_cons se_str (sa_cons se_str (sa_cons se_str sa_nil)))))) .vn)) sc__law_menu.nd rfl (Or.inl rfl)) rfl)
  (sss_cons (ss_setN (sg_of (i := 0) (se_add (se_vN 0 (pv 0) rfl) (SE.le (se_lst (sa_cons se_str (sa_cons se_str (sa_cons se_str (sa_cons se_str sa_nil))))) .vn)) sc__law_menu.nd rfl (Or.inl rfl)) rfl)
  (sss_cons (ss_setN (sg_of (i := 0) (se_add (se_vN 0 (pv 0) rfl) (SE.le (se_lst (sa_cons se_str (sa_cons se_str (sa_cons se_str (sa_cons se_str (sa_cons se_str sa_nil)))))) .vn)) sc__law_menu.nd rfl (Or.inl rfl)) rfl)
  (sss_cons (ss_setN (sg_of (i := 0) (se_add (se_vN 0 (pv 0) rfl) (SE.le (se_lst (sa_cons se_str (sa_cons se_str (sa_cons se_str (sa_cons se_str (sa_cons se_str sa_nil)))))) .vn)) sc__law_menu.nd rfl (Or.inl rfl)) rfl)
  (sss_cons (ss_setN (sg_of (i := 0) (se_add (se_vN 0 (pv 0) rfl) (SE.le (se_lst (sa_cons se_str (sa_cons se_str (sa_cons se_str (sa_cons se_str (sa_cons se_str (sa_cons se_str sa_nil))))))) .vn)) sc__law_menu.nd rfl (Or.inl rfl)) rfl)
  (sss_cons (ss_setN (sg_of (i := 0) (se_add (se_vN 0 (pv 0) rfl) (SE.le (se_lst (sa_cons se_str (sa_cons se_str (sa_cons se_str (sa_cons se_str (sa_cons se_str sa_nil)))))) .vn)) sc__law_menu.nd rfl (Or.inl rfl)) rfl)
  (sss_cons (ss_setN (sg_of (i := 0) (se_add (se_vN 0 (pv 0) rfl) (SE.le (se_lst (sa_cons se_str (sa_cons se_str (sa_cons se_str (sa_cons se_str sa_nil))))) .vn)) sc__law_menu.nd rfl (Or.inl rfl)) rfl)
  (sss_cons (ss_setN (sg_of (i := 0) (se_add (se_vN 0 (pv 0) rfl) (SE.le (se_lst (sa_cons se_str (sa_cons se_str (sa_cons se_str sa_nil)))) .vn)) sc__law_menu.nd rfl (Or.inl rfl)) rfl)
  (sss_cons (ss_setN (sg_of (i := 0) (se_add (se_vN 0 (pv 0) rfl) (SE.le (se_lst (sa_cons se_str (sa_cons se_str (sa_cons se_str (sa_cons se_str (sa_cons se_str (sa_cons se_str (sa_cons se_str (sa_cons se_str (sa_cons se_str sa_nil)))))))))) .vn)) sc__law_menu.nd rfl (Or.inl rfl)) rfl)
  (sss_cons (ss_setN (sg_of (i := 0) (se_add (se_vN 0 (pv 0) rfl) (SE.le (se_lst (sa_cons se_str (sa_cons se_str (sa_cons se_str (sa_cons se_str (sa_cons se_str (sa_cons se_str (sa_cons se_str (sa_cons se_str sa_nil))))))))) .vn)) sc__law_menu.nd rfl (Or.inl rfl)) rfl)
  (sss_one (ss_ret (SE.le (se_add (se_vN 0 (pv 0) rfl) (SE.le (se_lst (sa_cons se_non (sa_cons se_int (sa_cons se_bl (sa_cons (se_lst (c := .V) sa_nil) (sa_cons (se_lst (sa_cons se_str sa_nil)) (sa_cons (se_tup (sa_cons se_str (sa_cons se_str sa_nil))) (sa_cons (se_pow se_int se_int) (sa_cons se_dnewK (sa_cons se_dict1 (sa_cons (se_tup (c := .V) sa_nil) sa_nil))))))))))) .vn)) .nl))))))))))))))))
theorem ok__law_signs (T : Tp K mg) : FnOk P w K mg base (L2N.CX P w) 1 T.f__law_signs T.d__law_signs ps__law_signs (spP K (cvK K) 0 F__law_signs_v4) :=
  fn_P N__law_signs ps__law_signs 0 0 (cf__law_signs K mg) B__law_signs_v4 rfl rfl T.F__law_signs sc__law_signs rfl (fun i h1 => by
    match i, h1 with
    | i + 0, h => exact absurd h (by simp)) (fun cdv A outer s H E hr tk pw =>
  (sss_one (ss_ret (SE.le se_str .vl))))
theorem ok_borders (T : Tp K mg) : FnOk P w K mg base (L2N.CX P w) 2 T.f_borders T.d_borders ps_borders (spP K (cvK K) 1 F_borders) :=
  fn_P N_borders ps_borders 4 1 (cf_borders K mg) B_borders rfl rfl T.F_borders sc_borders rfl (fun i h1 => by
    match i, h1 with
    | 0, _ => exact rfl
    | i + 1, h => exact absurd h (by simp)) (fun cdv A outer s H E hr tk pw =>
  (sss_cons (ss_expr (se_call rfl tk (ok_need_signs T) hr (by rfl) T.g_need_signs T.F_need_signs.kp T.b_need_signs (sa_cons (SE.le (se_vS 0 (pv 0) rfl) .sb) sa_nil) (fun _ _ _ => aLen_cons (fun _ _ _ => aLen_nil))))
  (sss_cons (ss_setM (sg_of (i := 1) (se_lst (c := .V) sa_nil) sc_borders.nd rfl (Or.inl rfl)) rfl)
  (sss_cons (ss_if (st_ne rfl hr.units (se_vS 0 (pv 0) rfl) (se_lst (c := .V) sa_nil)) (sss_cons (ss_setS (sg_of (i := 2) (SE.le (se_call rfl tk (ok_greatest_borders T) hr (by rfl) T.g_greatest_borders T.F_greatest_borders.kp T.b_greatest_borders (sa_cons (SE.le (se_vS 0 (pv 0) rfl) .sb) sa_nil) (fun _ _ _ => aLen_cons (fun _ _ _ => aLen_nil))) .vs) sc_borders.nd rfl (Or.inl rfl)) rfl)
  (sss_cons (ss_setS (sg_of (i := 3) (se_ix rfl (se_vS 2 (pv 2) rfl) (SE.le (se_neg se_int) .vs) (fun _ _ => rfl)) sc_borders.nd rfl (Or.inl rfl)) rfl)
  (sss_cons (ss_while WFUEL pw (st_gt (se_vS 3 (pv 3) rfl) se_int) (sss_cons (ss_app (i := 1) rfl (pv 1) rfl (SE.le (SE.scal (se_vS 3 (pv 3) rfl)) .vn))
  (sss_one (ss_setS (sg_of (i := 3) (se_ix rfl (se_vS 2 (pv 2) rfl) (SE.le (se_sub (se_vS 3 (pv 3) rfl) se_int) .vs) (fun _ _ => rfl)) sc_borders.nd rfl (Or.inl rfl)) rfl))))
  (sss_one (ss_app (i := 1) rfl (pv 1) rfl (SE.le se_int .vn)))))) sss_nil)
  (sss_one (ss_ret (se_rev rfl (se_vM 1 (pv 1) rfl))))))))
theorem ok_lies_at (T : Tp K mg) : FnOk P w K mg base (L2N.CX P w) 2 T.f_lies_at T.d_lies_at ps_lies_at (spP K (cvK K) 2 F_lies_at) :=
  fn_P N_lies_at ps_lies_at 2 2 (cf_lies_at K mg) B_lies_at rfl rfl T.F_lies_at sc_lies_at rfl (fun i h1 => by
    match i, h1 with
    | 0, _ => exact rfl
    | 1, _ => exact rfl
    | i + 2, h => exact absurd h (by simp)) (fun cdv A outer s H E hr tk pw =>
  (sss_cons (ss_expr (se_call rfl tk (ok_need_word T) hr (by rfl) T.g_need_word T.F_need_word.kp T.b_need_word (sa_cons (SE.le (se_vS 1 (pv 1) rfl) .sb) sa_nil) (fun _ _ _ => aLen_cons (fun _ _ _ => aLen_nil))))
  (sss_cons (ss_expr (se_call rfl tk (ok_need_signs T) hr (by rfl) T.g_need_signs T.F_need_signs.kp T.b_need_signs (sa_cons (SE.le (se_add (se_vS 0 (pv 0) rfl) (se_vS 1 (pv 1) rfl)) .sb) sa_nil) (fun _ _ _ => aLen_cons (fun _ _ _ => aLen_nil))))
  (sss_one (ss_ret (SE.le (se_call rfl tk (ok_laid_at T) hr (by rfl) T.g_laid_at T.F_laid_at.kp T.b_laid_at (sa_cons (SE.le (se_vS 0 (pv 0) rfl) .sb) (sa_cons (SE.le (se_vS 1 (pv 1) rfl) .sb) sa_nil)) (fun _ _ _ => aLen_cons (fun _ _ _ => aLen_cons (fun _ _ _ => aLen_nil)))) .vl))))))
theorem ok_need_both (T : Tp K mg) : FnOk P w K mg base (L2N.CX P w) 2 T.f_need_both T.d_need_both ps_need_both (spP K (cvK K) 2 F_need_both) :=
  fn_P N_need_both ps_need_both 2 2 (cf_need_both K mg) B_need_both rfl rfl T.F_need_both sc_need_both rfl (fun i h1 => by
    match i, h1 with
    | 0, _ => exact rfl
    | 1, _ => exact rfl
    | i + 2, h => exact absurd h (by simp)) (fun cdv A outer s H E hr tk pw =>
  (sss_cons (ss_expr (se_call rfl tk (ok_need_word T) hr (by rfl) T.g_need_word T.F_need_word.kp T.b_need_word (sa_cons (SE.le (se_vS 1 (pv 1) rfl) .sb) sa_nil) (fun _ _ _ => aLen_cons (fun _ _ _ => aLen_nil))))
  (sss_cons (ss_expr (se_call rfl tk (ok_need_signs T) hr (by rfl) T.g_need_signs T.F_need_signs.kp T.b_need_signs (sa_cons (SE.le (se_add (se_vS 0 (pv 0) rfl) (se_vS 1 (pv 1) rfl)) .sb) sa_nil) (fun _ _ _ => aLen_cons (fun _ _ _ => aLen_nil))))
  (sss_one (ss_expr (se_call rfl tk (ok_need_text T) hr (by rfl) T.g_need_text T.F_need_text.kp T.b_need_text (sa_cons (SE.le (se_vS 0 (pv 0) rfl) .sb) sa_nil) (fun _ _ _ => aLen_cons (fun _ _ _ => aLen_nil))))))))
theorem ok_need_room (T : Tp K mg) : FnOk P w K mg base (L2N.CX P w) 2 T.f_need_room T.d_need_room ps_need_room (spP K (cvK K) 2 F_need_room) :=
  fn_P N_need_room ps_need_room 2 2 (cf_need_room K mg) B_need_room rfl rfl T.F_need_room sc_need_room rfl (fun i h1 => by
    match i, h1 with
    | 0, _ => exact rfl
    | 1, _ => exact rfl
    | i + 2, h => exact absurd h (by simp)) (fun cdv A outer s H E hr tk pw =>
  (sss_cons (ss_expr (se_call rfl tk (ok_need_word T) hr (by rfl) T.g_need_word T.F_need_word.kp T.b_need_word (sa_cons (SE.le (se_vS 1 (pv 1) rfl) .sb) sa_nil) (fun _ _ _ => aLen_cons (fun _ _ _ => aLen_nil))))
  (sss_cons (ss_expr (se_call rfl tk (ok_need_signs T) hr (by rfl) T.g_need_signs T.F_need_signs.kp T.b_need_signs (sa_cons (SE.le (se_vS 1 (pv 1) rfl) .sb) sa_nil) (fun _ _ _ => aLen_cons (fun _ _ _ => aLen_nil))))
  (sss_cons (ss_expr (se_call rfl tk (ok_need_signs T) hr (by rfl) T.g_need_signs T.F_need_signs.kp T.b_need_signs (sa_cons (SE.le (se_vS 0 (pv 0) rfl) .sb) sa_nil) (fun _ _ _ => aLen_cons (fun _ _ _ => aLen_nil))))
  (sss_one (ss_if (st_lt (se_len rfl T.m_len (sa_cons (se_vS 0 (pv 0) rfl) sa_nil)) (se_len rfl T.m_len (sa_cons (se_vS 1 (pv 1) rfl) sa_nil))) (sss_one (ss_raise rfl rfl rfl tk T.X_NoText)) sss_nil))))))
theorem ok_best_from (T : Tp K mg) : FnOk P w K mg base (L2N.CX P w) 2 T.f_best_from T.d_best_from ps_best_from (spP K (cvK K) 2 F_best_from) :=
  fn_P N_best_from ps_best_from 14 2 (cf_best_from K mg) B_best_from rfl rfl T.F_best_from sc_best_from rfl (fun i h1 => by
    match i, h1 with
    | 0, _ => exact rfl
    | 1, _ => exact rfl
    | i + 2, h => exact absurd h (by simp)) (fun cdv A outer s H E hr tk pw =>
  (sss_cons (ss_setS (sg_of (i := 2) (SE.le (se_call rfl tk (ok_all_shifts T) hr (by rfl) T.g_all_shifts T.F_all_shifts.kp T.b_all_shifts (sa_cons (SE.le (se_vS 1 (pv 1) rfl) .sb) sa_nil) (fun _ _ _ => aLen_cons (fun _ _ _ => aLen_nil))) .vs) sc_best_from.nd rfl (Or.inl rfl)) rfl)
  (sss_cons (ss_setN (sg_of (i := 3) (SE.le (se_len rfl T.m_len (sa_cons (se_vS 1 (pv 1) rfl) sa_nil)) .vn) sc_best_from.nd rfl (Or.inl rfl)) rfl)
  (sss_cons (ss_setN (sg_of (i := 4) (SE.le (se_call rfl tk (ok_misses T) hr (by rfl) T.g_misses T.F_misses.kp T.b_misses (sa_cons (SE.le (se_vS 0 (pv 0) rfl) .sb) (sa_cons (SE.le (se_vS 1 (pv 1) rfl) .sb) sa_nil)) (fun _ _ _ => aLen_cons (fun _ _ _ => aLen_cons (fun _ _ _ => aLen_nil)))) .vn) sc_best_from.nd rfl (Or.inl rfl)) rfl)
  (sss_cons (ss_setS (sg_of (i := 5) (SE.le (se_sub (se_len rfl T.m_len (sa_cons (se_vS 0 (pv 0) rfl) sa_nil)) (se_vN 3 (pv 3) rfl)) .vs) sc_best_from.nd rfl (Or.inl rfl)) rfl)
  (sss_cons (ss_setM (sg_of (i := 6) (se_add (se_mul (se_lst (sa_cons se_non sa_nil)) (SE.scal (se_vS 5 (pv 5) rfl))) (se_lst (sa_cons (se_tup (sa_cons se_int (sa_cons se_int (sa_cons (SE.scal (se_vS 5 (pv 5) rfl)) sa_nil)))) sa_nil))) sc_best_from.nd rfl (Or.inl rfl)) rfl)
  (sss_cons (ss_for pw rfl (si_range3 (by rfl) T.m_range (sa_cons (SE.le (se_sub (se_vS 5 (pv 5) rfl) se_int) .vb) (sa_cons (SE.le (se_neg se_int) .vb) (sa_cons (SE.le (se_neg se_int) .vb) sa_nil)))) (sgt_name (i := 7) (is := [7]) List.mem_cons_self rfl sc_best_from.nd rfl (Or.inl rfl)) (sss_cons (ss_setM (sg_of (i := 8) (se_lst (c := .V) sa_nil) sc_best_from.nd rfl (Or.inl rfl)) rfl)
  (sss_cons (ss_for pw rfl (si_list rfl (se_vS 2 (pv 2) rfl)) (sgt_name (i := 9) (is := [9]) List.mem_cons_self rfl sc_best_from.nd rfl (Or.inl rfl)) (sss_one (ss_if (st_and2 (st_le (se_add (se_vS 7 (pv 7) rfl) (se_vS 9 (pv 9) rfl)) (se_vS 5 (pv 5) rfl)) (st_notN (se_ixM (i := 6) rfl (pv 6) rfl (se_add (se_vS 7 (pv 7) rfl) (se_vS 9 (pv 9) rfl)) (fun _ _ => rfl)) se_non)) (sss_cons (ss_unp (SE.le (se_ixM (i := 6) rfl (pv 6) rfl (se_add (se_vS 7 (pv 7) rfl) (se_vS 9 (pv 9) rfl)) (fun _ _ => rfl)) .ns) (sgt_tup (is := [10, 11, 12]) (js := [10, 11, 12]) rfl rfl (sgts_cons (i := 10) (by decide) rfl sc_best_from.nd rfl (Or.inl rfl) (sgts_cons (i := 11) (by decide) rfl sc_best_from.nd rfl (Or.inl rfl) (sgts_cons (i := 12) (by decide) rfl sc_best_from.nd rfl (Or.inl rfl) sgts_nil))) rfl))
  (sss_cons (ss_setS (sg_of (i := 13) (SE.le (se_sub (se_ix rfl (se_ix rfl (se_vN 4 (pv 4) rfl) (SE.le (SE.scal (se_add (se_vS 7 (pv 7) rfl) (se_vS 9 (pv 9) rfl))) .vn) (fun _ _ => rfl)) (se_vN 3 (pv 3) rfl) (fun _ _ => rfl)) (se_ix rfl (se_ix rfl (se_vN 4 (pv 4) rfl) (SE.le (SE.scal (se_add (se_vS 7 (pv 7) rfl) (se_vS 9 (pv 9) rfl))) .vn) (fun _ _ => rfl)) (SE.le (se_sub (se_vN 3 (pv 3) rfl) (se_vS 9 (pv 9) rfl)) .vn) (fun _ _ => rfl))) .vs) sc_best_from.nd rfl (Or.inl rfl)) rfl)
  (sss_one (ss_app (i := 8) rfl (pv 8) rfl (SE.le (se_tup (sa_cons (SE.flat (se_add (se_vS 10 (pv 10) rfl) (se_vS 13 (pv 13) rfl))) (sa_cons (SE.flat (se_add (se_vS 11 (pv 11) rfl) (SE.le se_int .vs))) (sa_cons (SE.flat (se_add (se_vS 7 (pv 7) rfl) (se_vS 9 (pv 9) rfl))) sa_nil)))) .vn))))) sss_nil)))
  (sss_one (ss_putM (i := 6) (pv 6) rfl (se_minXM (i := 8) rfl rfl hr.units T.m_min (pv 8) rfl) (se_vS 7 (pv 7) rfl))))))
  (sss_one (ss_ret (se_tup (sa_cons (SE.le (se_ix rfl (se_ix rfl (se_vN 4 (pv 4) rfl) (SE.le se_int .vn) (fun _ _ => rfl)) (se_vN 3 (pv 3) rfl) (fun _ _ => rfl)) .nl) (sa_cons (se_vM 6 (pv 6) rfl) sa_nil))))))))))))
theorem ok_need_whole_word (T : Tp K mg) : FnOk P w K mg base (L2N.CX P w) 2 T.f_need_whole_word T.d_need_whole_word ps_need_whole_word (spP K (cvK K) 1 F_need_whole_word) :=
  fn_P N_need_whole_word ps_need_whole_word 1 1 (cf_need_whole_word K mg) B_need_whole_word rfl rfl T.F_need_whole_word sc_need_whole_word rfl (fun i h1 => by
    match i, h1 with
    | 0, _ => exact rfl
    | i + 1, h => exact absurd h (by simp)) (fun cdv A outer s H E hr tk pw =>
  (sss_cons (ss_expr (se_call rfl tk (ok_need_word T) hr (by rfl) T.g_need_word T.F_need_word.kp T.b_need_word (sa_cons (SE.le (se_vS 0 (pv 0) rfl) .sb) sa_nil) (fun _ _ _ => aLen_cons (fun _ _ _ => aLen_nil))))
  (sss_one (ss_expr (se_call rfl tk (ok_need_signs T) hr (by rfl) T.g_need_signs T.F_need_signs.kp T.b_need_signs (sa_cons (SE.le (se_vS 0 (pv 0) rfl) .sb) sa_nil) (fun _ _ _ => aLen_cons (fun _ _ _ => aLen_nil)))))))
theorem ok_next_shifts (T : Tp K mg) : FnOk P w K mg base (L2N.CX P w) 2 T.f_next_shifts T.d_next_shifts ps_next_shifts (spP K (cvK K) 1 F_next_shifts) :=
  fn_P N_next_shifts ps_next_shifts 7 1 (cf_next_shifts K mg) B_next_shifts rfl rfl T.F_next_shifts sc_next_shifts rfl (fun i h1 => by
    match i, h1 with
    | 0, _ => exact rfl
    | i + 1, h => exact absurd h (by simp)) (fun cdv A outer s H E hr tk pw =>
  (sss_cons (ss_setS (sg_of (i := 1) (SE.le (se_call rfl tk (ok_all_shifts T) hr (by rfl) T.g_all_shifts T.F_all_shifts.kp T.b_all_shifts (sa_cons (SE.le (se_vS 0 (pv 0) rfl) .sb) sa_nil) (fun _ _ _ => aLen_cons (fun _ _ _ => aLen_nil))) .vs) sc_next_shifts.nd rfl (Or.inl rfl)) rfl)
  (sss_cons (ss_setM (sg_of (i := 2) (se_lst (c := .V) sa_nil) sc_next_shifts.nd rfl (Or.inl rfl)) rfl)
  (sss_cons (ss_for pw rfl (si_list rfl (se_vS 1 (pv 1) rfl)) (sgt_name (i := 3) (is := [3]) List.mem_cons_self rfl sc_next_shifts.nd rfl (Or.inr rfl)) (sss_cons (ss_setS (sg_of (i := 4) (se_add (se_vS 0 (pv 0) rfl) (se_sl rfl (se_vS 0 (pv 0) rfl) (so_some (se_sub (se_len rfl T.m_len (sa_cons (se_vS 0 (pv 0) rfl) sa_nil)) (se_vS 3 (pv 3) rfl))) so_none)) sc_next_shifts.nd rfl (Or.inr rfl)) rfl)
  (sss_one (ss_if (st_eq rfl hr.units (se_lc (c := .S) (own := [(Str.ofString "near", 6)]) rfl (own1 rfl) rfl sc_next_shifts.nd (SI.w (si_list rfl (se_vS 1 (pv 1) rfl))) (blkOk_by (own := [(Str.ofString "near", 6)]) (N := N_next_shifts) (sc := (defScope s_next_shifts)) (by decide +kernel)) (fun _ _ _ _ _ => (sgt_name (i := 6) (is := [6]) List.mem_cons_self rfl sc_next_shifts.nd rfl (Or.inl rfl))) (fun _ _ _ _ _ => (sts_one (st_and2 (st_lt (se_vS 6 (pv 6) rfl) (se_vS 3 (pv 3) rfl)) (st_eq rfl hr.units (se_sl rfl (se_vS 4 (pv 4) rfl) (so_some (se_vS 6 (pv 6) rfl)) (so_some (se_add (se_vS 6 (pv 6) rfl) (SE.le (se_len rfl T.m_len (sa_cons (se_vS 0 (pv 0) rfl) sa_nil)) .vs)))) (se_vS 0 (pv 0) rfl))))) (fun _ _ _ _ _ => (se_vS 6 (pv 6) rfl))) (se_lst (c := .V) sa_nil)) (sss_one (ss_app (i := 2) rfl (pv 2) rfl (SE.le (se_tup (sa_cons (SE.flat (se_sl rfl (se_vS 0 (pv 0) rfl) (so_some (se_sub (se_len rfl T.m_len (sa_cons (se_vS 0 (pv 0) rfl) sa_nil)) (se_vS 3 (pv 3) rfl))) so_none)) (sa_cons (SE.scal (se_vS 3 (pv 3) rfl)) sa_nil))) .vn))) sss_nil))))
  (sss_seal (i := 2) (.inl rfl) (sss_one (ss_ret (SE.le (SE.flat (se_lc (c := .S) (own := [(Str.ofString "behind", 5), (Str.ofString "far", 3)]) rfl (own2 rfl rfl) rfl sc_next_shifts.nd (SI.w (si_list rfl (SE.le (se_sortD rfl rfl hr.units T.m_sorted (sa_cons (se_vN 2 (pv 2) rfl) sa_nil)) .ns))) (blkOk_by (own := [(Str.ofString "behind", 5), (Str.ofString "far", 3)]) (N := N_next_shifts) (sc := (defScope s_next_shifts)) (by decide +kernel)) (fun _ _ _ _ _ => (sgt_tup (is := [5, 3]) (js := [5, 3]) rfl rfl (sgts_cons (i := 5) (by decide) rfl sc_next_shifts.nd rfl (Or.inl rfl) (sgts_cons (i := 3) (by decide) rfl sc_next_shifts.nd rfl (Or.inl rfl) sgts_nil)) rfl)) (fun _ _ _ _ _ => sts_nil) (fun _ _ _ _ _ => (se_vS 3 (pv 3) rfl)))) .vl))))))))
theorem ok_covers_amid (T : Tp K mg) : FnOk P w K mg base (L2N.CX P w) 2 T.f_covers_amid T.d_covers_amid ps_covers_amid (spP K (cvK K) 4 F_covers_amid) :=
  fn_P N_covers_amid ps_covers_amid 6 4 (cf_covers_amid K mg) B_covers_amid rfl rfl T.F_covers_amid sc_covers_amid rfl (fun i h1 => by
    match i, h1 with
    | 0, _ => exact rfl
    | 1, _ => exact rfl
    | 2, _ => exact rfl
    | 3, _ => exact rfl
    | i + 4, h => exact absurd h (by simp)) (fun cdv A outer s H E hr tk pw =>
  (sss_cons (ss_setS (sg_of (i := 4) (se_vS 2 (pv 2) rfl) sc_covers_amid.nd rfl (Or.inl rfl)) rfl)
  (sss_cons (ss_for pw rfl (si_list rfl (SE.le (se_call rfl tk (ok_laid_at T) hr (by rfl) T.g_laid_at T.F_laid_at.kp T.b_laid_at (sa_cons (SE.le (se_vS 0 (pv 0) rfl) .sb) (sa_cons (SE.le (se_vS 1 (pv 1) rfl) .sb) sa_nil)) (fun _ _ _ => aLen_cons (fun _ _ _ => aLen_cons (fun _ _ _ => aLen_nil)))) .vs)) (sgt_name (i := 5) (is := [5]) List.mem_cons_self rfl sc_covers_amid.nd rfl (Or.inl rfl)) (sss_one (ss_if (st_le (se_vS 5 (pv 5) rfl) (se_vS 4 (pv 4) rfl)) (sss_one (ss_setS (sg_of (i := 4) (SE.le (se_max2 rfl T.m_max (sa_cons (SE.le (se_vS 4 (pv 4) rfl) .sb) (sa_cons (SE.le (se_add (se_vS 5 (pv 5) rfl) (SE.le (se_len rfl T.m_len (sa_cons (se_vS 1 (pv 1) rfl) sa_nil)) .vs)) .sb) sa_nil))) .vs) sc_covers_amid.nd rfl (Or.inl rfl)) rfl)) sss_nil)))
  (sss_one (ss_ret (SE.le (se_ge (se_vS 4 (pv 4) rfl) (se_vS 3 (pv 3) rfl)) .vl))))))
theorem ok_is_within (T : Tp K mg) : FnOk P w K mg base (L2N.CX P w) 2 T.f_is_within T.d_is_within ps_is_within (spP K (cvK K) 2 F_is_within) :=
  fn_P N_is_within ps_is_within 2 2 (cf_is_within K mg) B_is_within rfl rfl T.F_is_within sc_is_within rfl (fun i h1 => by
    match i, h1 with
    | 0, _ => exact rfl
    | 1, _ => exact rfl
    | i + 2, h => exact absurd h (by simp)) (fun cdv A outer s H E hr tk pw =>
  (sss_one (ss_ret (SE.le (se_ne rfl hr.units (se_call rfl tk (ok_laid_at T) hr (by rfl) T.g_laid_at T.F_laid_at.kp T.b_laid_at (sa_cons (SE.le (se_vS 1 (pv 1) rfl) .sb) (sa_cons (SE.le (se_vS 0 (pv 0) rfl) .sb) sa_nil)) (fun _ _ _ => aLen_cons (fun _ _ _ => aLen_cons (fun _ _ _ => aLen_nil)))) (se_lst (c := .V) sa_nil)) .vl))))
theorem ok__law_digit (T : Tp K mg) : FnOk P w K mg base (L2N.CX P w) 2 T.f__law_digit T.d__law_digit ps__law_digit (spP K (cvK K) 3 F__law_digit) :=
  fn_P N__law_digit ps__law_digit 3 3 (cf__law_digit K mg) B__law_digit rfl rfl T.F__law_digit sc__law_digit rfl (fun i h1 => by
    match i, h1 with
    | 0, _ => exact rfl
    | 1, _ => exact rfl
    | 2, _ => exact rfl
    | i + 3, h => exact absurd h (by simp)) (fun cdv A outer s H E hr tk pw =>
  (sss_cons (ss_if (st_ge (se_vS 0 (pv 0) rfl) (se_pow se_int se_int)) (sss_one (ss_ret (SE.le (se_mod (se_mod (se_shr (se_vS 0 (pv 0) rfl) (se_mul (SE.le se_int .vs) (se_vS 1 (pv 1) rfl))) se_int) (se_vS 2 (pv 2) rfl)) .vl))) sss_nil)
  (sss_one (ss_ret (SE.le (se_mod (se_call rfl tk (ok__law_stir T) hr (by rfl) T.g__law_stir T.F__law_stir.kp T.b__law_stir (sa_cons (SE.le (se_vS 0 (pv 0) rfl) .sb) (sa_cons (SE.le (se_vS 1 (pv 1) rfl) .sb) sa_nil)) (fun _ _ _ => aLen_cons (fun _ _ _ => aLen_cons (fun _ _ _ => aLen_nil)))) (se_vS 2 (pv 2) rfl)) .vl)))))
theorem ok_covered (T : Tp K mg) : FnOk P w K mg base (L2N.CX P w) 3 T.f_covered T.d_covered ps_covered (spP K (cvK K) 2 F_covered) :=
  fn_P N_covered ps_covered 4 2 (cf_covered K mg) B_covered rfl rfl T.F_covered sc_covered rfl (fun i h1 => by
    match i, h1 with
    | 0, _ => exact rfl
    | 1, _ => exact rfl
    | i + 2, h => exact absurd h (by simp)) (fun cdv A outer s H E hr tk pw =>
  (sss_cons (ss_expr (se_call rfl tk (ok_need_both T) hr (by rfl) T.g_need_both T.F_need_both.kp T.b_need_both (sa_cons (SE.le (se_vS 0 (pv 0) rfl) .sb) (sa_cons (SE.le (se_vS 1 (pv 1) rfl) .sb) sa_nil)) (fun _ _ _ => aLen_cons (fun _ _ _ => aLen_cons (fun _ _ _ => aLen_nil)))))
  (sss_cons (ss_setN (sg_of (i := 2) (SE.le (se_call rfl tk (ok_lies_at T) hr (by rfl) T.g_lies_at T.F_lies_at.kp T.b_lies_at (sa_cons (SE.le (se_vS 0 (pv 0) rfl) .sb) (sa_cons (SE.le (se_vS 1 (pv 1) rfl) .sb) sa_nil)) (fun _ _ _ => aLen_cons (fun _ _ _ => aLen_cons (fun _ _ _ => aLen_nil)))) .vn) sc_covered.nd rfl (Or.inl rfl)) rfl)
  (sss_cons (ss_setN (sg_of (i := 3) (SE.le (se_call rfl tk (ok_first_bare T) (hr.mono (by decide : 1 ≤ 2)) (by rfl) T.g_first_bare T.F_first_bare.kp T.b_first_bare (sa_cons (SE.le (se_len rfl T.m_len (sa_cons (se_vS 1 (pv 1) rfl) sa_nil)) .vb) (sa_cons (SE.le (se_vN 2 (pv 2) rfl) .nb) (sa_cons (SE.le (se_len rfl T.m_len (sa_cons (se_vS 0 (pv 0) rfl) sa_nil)) .vb) sa_nil))) (fun _ _ _ => aLen_cons (fun _ _ _ => aLen_cons (fun _ _ _ => aLen_cons (fun _ _ _ => aLen_nil))))) .vn) sc_covered.nd rfl (Or.inl rfl)) rfl)
  (sss_cons (ss_if (st_isN (se_vN 3 (pv 3) rfl) se_non) (sss_one (ss_ret (SE.le (se_tup (sa_cons (SE.le se_str .vn) (sa_cons (se_vN 2 (pv 2) rfl) sa_nil))) .nl))) sss_nil)
  (sss_one (ss_ret (SE.le (se_tup (sa_cons (SE.le se_str .vn) (sa_cons (se_vN 3 (pv 3) rfl) sa_nil))) .nl))))))))
theorem ok_onward (T : Tp K mg) : FnOk P w K mg base (L2N.CX P w) 3 T.f_onward T.d_onward ps_onward (spP K (cvK K) 2 F_onward) :=
  fn_P N_onward ps_onward 7 2 (cf_onward K mg) B_onward rfl rfl T.F_onward sc_onward rfl (fun i h1 => by
    match i, h1 with
    | 0, _ => exact rfl
    | 1, _ => exact rfl
    | i + 2, h => exact absurd h (by simp)) (fun cdv A outer s H E hr tk pw =>
  (sss_cons (ss_setS (sg_of (i := 2) (SE.le (se_call rfl tk (ok_lies_at T) hr (by rfl) T.g_lies_at T.F_lies_at.kp T.b_lies_at (sa_cons (SE.le (se_vS 0 (pv 0) rfl) .sb) (sa_cons (SE.le (se_vS 1 (pv 1) rfl) .sb) sa_nil)) (fun _ _ _ => aLen_cons (fun _ _ _ => aLen_cons (fun _ _ _ => aLen_nil)))) .vs) sc_onward.nd rfl (Or.inl rfl)) rfl)
  (sss_cons (ss_setD (sg_of (i := 3) se_dnewK sc_onward.nd rfl (Or.inr rfl)) rfl (fun _ _ _ h => dnewK_dic h))
  (sss_cons (ss_for pw rfl (si_list rfl (se_rev rfl (se_vS 2 (pv 2) rfl))) (sgt_name (i := 4) (is := [4]) List.mem_cons_self rfl sc_onward.nd rfl (Or.inr rfl)) (sss_cons (ss_setS (SG.le (sg_lc (i := 5) (c := .V) (own := [(Str.ofString "other", 6)]) rfl (own1 rfl) rfl sc_onward.nd rfl rfl (sw_true rfl rfl rfl (by decide +kernel)) (SI.w (si_list rfl (se_vS 2 (pv 2) rfl))) (blkOk_by (own := [(Str.ofString "other", 6)]) (N := N_onward) (sc := (defScope s_onward)) (by decide +kernel)) (fun _ _ _ _ _ => (sgt_name (i := 6) (is := [6]) List.mem_cons_self rfl sc_onward.nd rfl (Or.inl rfl))) (fun _ _ _ _ _ => (sts_one (st_and2 (st_chain op_lt op_le (se_vS 4 (pv 4) rfl) (se_vS 6 (pv 6) rfl) (se_add (se_vS 4 (pv 4) rfl) (SE.le (se_len rfl T.m_len (sa_cons (se_vS 1 (pv 1) rfl) sa_nil)) .vs))) (st_notN (se_dix hr.units (se_vM 3 (pv 3) rfl) (SE.le (SE.scal (se_vS 6 (pv 6) rfl)) .vl)) se_non)))) (fun _ _ _ _ _ => (SE.scal (se_dix hr.units (se_vM 3 (pv 3) rfl) (SE.le (SE.scal (se_vS 6 (pv 6) rfl)) .vl))))) .vs) rfl)
  (sss_cons (ss_dput (i := 3) hr.units (pv 3) rfl (SE.le se_non .vn) (se_vS 4 (pv 4) rfl))
  (sss_one (ss_if (st_eq rfl hr.units (se_add (se_vS 4 (pv 4) rfl) (SE.le (se_len rfl T.m_len (sa_cons (se_vS 1 (pv 1) rfl) sa_nil)) .vs)) (se_len rfl T.m_len (sa_cons (se_vS 0 (pv 0) rfl) sa_nil))) (sss_one (ss_dput (i := 3) hr.units (pv 3) rfl (SE.le se_int .vn) (se_vS 4 (pv 4) rfl))) (sss_one (ss_if (st_ne rfl hr.units (se_vS 5 (pv 5) rfl) (se_lst (c := .V) sa_nil)) (sss_one (ss_dput (i := 3) hr.units (pv 3) rfl (SE.le (se_add se_int (se_min1 rfl rfl T.m_min (sa_cons (SE.le (se_vS 5 (pv 5) rfl) .sb) sa_nil))) .vn) (se_vS 4 (pv 4) rfl))) sss_nil)))))))
  (sss_one (ss_ret (se_vM 3 (pv 3) rfl)))))))
theorem ok_fewest_by (T : Tp K mg) : FnOk P w K mg base (L2N.CX P w) 3 T.f_fewest_by T.d_fewest_by ps_fewest_by (spP K (cvK K) 2 F_fewest_by) :=
  fn_P N_fewest_by ps_fewest_by 5 2 (cf_fewest_by K mg) B_fewest_by rfl rfl T.F_fewest_by sc_fewest_by rfl (fun i h1 => by
    match i, h1 with
    | 0, _ => exact rfl
    | 1, _ => exact rfl
    | i + 2, h => exact absurd h (by simp)) (fun cdv A outer s H E hr tk pw =>
  (sss_cons (ss_unp (SE.le (se_call rfl tk (ok_best_from T) hr (by rfl) T.g_best_from T.F_best_from.kp T.b_best_from (sa_cons (SE.le (se_vS 0 (pv 0) rfl) .sb) (sa_cons (SE.le (se_vS 1 (pv 1) rfl) .sb) sa_nil)) (fun _ _ _ => aLen_cons (fun _ _ _ => aLen_cons (fun _ _ _ => aLen_nil)))) .vs) (sgt_tup (is := [2, 3]) (js := [2, 3]) rfl rfl (sgts_cons (i := 2) (by decide) rfl sc_fewest_by.nd rfl (Or.inl rfl) (sgts_cons (i := 3) (by decide) rfl sc_fewest_by.nd rfl (Or.inl rfl) sgts_nil)) rfl))
  (sss_cons (ss_if (st_isN (se_ix rfl (se_vS 3 (pv 3) rfl) (SE.le se_int .vs) (fun _ _ => rfl)) se_non) (sss_one (ss_ret (SE.le se_non .vl))) sss_nil)
  (sss_cons (ss_setM (sg_of (i := 4) (se_lst (sa_cons se_int sa_nil)) sc_fewest_by.nd rfl (Or.inl rfl)) rfl)
  (sss_cons (ss_while WFUEL pw (st_lt (se_ix rfl (se_vM 4 (pv 4) rfl) (SE.le (se_neg se_int) .vl) (fun _ _ => rfl)) (se_sub (se_len rfl T.m_len (sa_cons (se_vS 0 (pv 0) rfl) sa_nil)) (se_len rfl T.m_len (sa_cons (se_vS 1 (pv 1) rfl) sa_nil)))) (sss_one (ss_app (i := 4) rfl (pv 4) rfl (SE.le (SE.scal (se_ix rfl (se_ix rfl (se_vS 3 (pv 3) rfl) (SE.le (SE.scal (se_ix rfl (se_vM 4 (pv 4) rfl) (SE.le (se_neg se_int) .vl) (fun _ _ => rfl))) .vs) (fun _ _ => rfl)) (SE.le se_int .vs) (fun _ _ => rfl))) .vn))))
  (sss_one (ss_ret (se_tup (sa_cons (SE.le (SE.flat (se_add (se_vS 2 (pv 2) rfl) (se_ix rfl (se_ix rfl (se_vS 3 (pv 3) rfl) (SE.le se_int .vs) (fun _ _ => rfl)) (SE.le se_int .vs) (fun _ _ => rfl)))) .vl) (sa_cons (se_vM 4 (pv 4) rfl) sa_nil))))))))))
theorem ok_counts_to (T : Tp K mg) : FnOk P w K mg base (L2N.CX P w) 3 T.f_counts_to T.d_counts_to ps_counts_to (spP K (cvK K) 2 F_counts_to) :=
  fn_P N_counts_to ps_counts_to 6 2 (cf_counts_to K mg) B_counts_to rfl rfl T.F_counts_to sc_counts_to rfl (fun i h1 => by
    match i, h1 with
    | 0, _ => exact rfl
    | 1, _ => exact rfl
    | i + 2, h => exact absurd h (by simp)) (fun cdv A outer s H E hr tk pw =>
  (sss_cons (ss_setS (sg_of (i := 2) (SE.le (se_call rfl tk (ok_next_shifts T) hr (by rfl) T.g_next_shifts T.F_next_shifts.kp T.b_next_shifts (sa_cons (SE.le (se_vS 0 (pv 0) rfl) .sb) sa_nil) (fun _ _ _ => aLen_cons (fun _ _ _ => aLen_nil))) .vs) sc_counts_to.nd rfl (Or.inl rfl)) rfl)
  (sss_cons (ss_setM (sg_of (i := 3) (se_lst (sa_cons se_int sa_nil)) sc_counts_to.nd rfl (Or.inr rfl)) rfl)
  (sss_cons (ss_for pw rfl (si_range2 (by rfl) T.m_range (sa_cons (SE.le se_int .vb) (sa_cons (SE.le (se_add (se_sub (se_vS 1 (pv 1) rfl) (se_len rfl T.m_len (sa_cons (se_vS 0 (pv 0) rfl) sa_nil))) se_int) .vb) sa_nil))) (sgt_name (i := 4) (is := [4]) List.mem_cons_self rfl sc_counts_to.nd rfl (Or.inr rfl)) (sss_one (ss_app (i := 3) rfl (pv 3) rfl (SE.le (se_sum rfl rfl T.m_sum (sa_cons (SE.le (se_lc (c := .V) (own := [(Str.ofString "far", 5)]) rfl (own1 rfl) rfl sc_counts_to.nd (SI.w (si_list rfl (se_vS 2 (pv 2) rfl))) (blkOk_by (own := [(Str.ofString "far", 5)]) (N := N_counts_to) (sc := (defScope s_counts_to)) (by decide +kernel)) (fun _ _ _ _ _ => (sgt_name (i := 5) (is := [5]) List.mem_cons_self rfl sc_counts_to.nd rfl (Or.inl rfl))) (fun _ _ _ _ _ => (sts_one (st_le (se_vS 5 (pv 5) rfl) (se_vS 4 (pv 4) rfl)))) (fun _ _ _ _ _ => (SE.scal (se_ix rfl (se_vM 3 (pv 3) rfl) (SE.le (se_sub (se_vS 4 (pv 4) rfl) (se_vS 5 (pv 5) rfl)) .vl) (fun _ _ => rfl))))) .vb) sa_nil)) .vn))))
  (sss_one (ss_ret (se_vM 3 (pv 3) rfl)))))))
theorem ok_rest_behind (T : Tp K mg) : FnOk P w K mg base (L2N.CX P w) 3 T.f_rest_behind T.d_rest_behind ps_rest_behind (spP K (cvK K) 2 F_rest_behind) :=
  fn_P N_rest_behind ps_rest_behind 2 2 (cf_rest_behind K mg) B_rest_behind rfl rfl T.F_rest_behind sc_rest_behind rfl (fun i h1 => by
    match i, h1 with
    | 0, _ => exact rfl
    | 1, _ => exact rfl
    | i + 2, h => exact absurd h (by simp)) (fun cdv A outer s H E hr tk pw =>
  (sss_cons (ss_expr (se_call rfl tk (ok_need_both T) hr (by rfl) T.g_need_both T.F_need_both.kp T.b_need_both (sa_cons (SE.le (se_vS 0 (pv 0) rfl) .sb) (sa_cons (SE.le (se_vS 1 (pv 1) rfl) .sb) sa_nil)) (fun _ _ _ => aLen_cons (fun _ _ _ => aLen_cons (fun _ _ _ => aLen_nil)))))
  (sss_one (ss_ret (SE.le (se_call rfl tk (ok_covers_amid T) hr (by rfl) T.g_covers_amid T.F_covers_amid.kp T.b_covers_amid (sa_cons (SE.le (se_vS 0 (pv 0) rfl) .sb) (sa_cons (SE.le (se_vS 1 (pv 1) rfl) .sb) (sa_cons (SE.le se_int .vb) (sa_cons (SE.le (se_sub (se_len rfl T.m_len (sa_cons (se_vS 0 (pv 0) rfl) sa_nil)) (se_call rfl tk (ok_hung_behind T) (hr.mono (by decide : 1 ≤ 2)) (by rfl) T.g_hung_behind T.F_hung_behind.kp T.b_hung_behind (sa_cons (SE.le (se_vS 0 (pv 0) rfl) .sb) (sa_cons (SE.le (se_vS 1 (pv 1) rfl) .sb) sa_nil)) (fun _ _ _ => aLen_cons (fun _ _ _ => aLen_cons (fun _ _ _ => aLen_nil))))) .vb) sa_nil)))) (fun _ _ _ => aLen_cons (fun _ _ _ => aLen_cons (fun _ _ _ => aLen_cons (fun _ _ _ => aLen_cons (fun _ _ _ => aLen_nil)))))) .vl)))))
theorem ok_rest_ahead (T : Tp K mg) : FnOk P w K mg base (L2N.CX P w) 3 T.f_rest_ahead T.d_rest_ahead ps_rest_ahead (spP K (cvK K) 2 F_rest_ahead) :=
  fn_P N_rest_ahead ps_rest_ahead 2 2 (cf_rest_ahead K mg) B_rest_ahead rfl rfl T.F_rest_ahead sc_rest_ahead rfl (fun i h1 => by
    match i, h1 with
    | 0, _ => exact rfl
    | 1, _ => exact rfl
    | i + 2, h => exact absurd h (by simp)) (fun cdv A outer s H E hr tk pw =>
  (sss_cons (ss_expr (se_call rfl tk (ok_need_both T) hr (by rfl) T.g_need_both T.F_need_both.kp T.b_need_both (sa_cons (SE.le (se_vS 0 (pv 0) rfl) .sb) (sa_cons (SE.le (se_vS 1 (pv 1) rfl) .sb) sa_nil)) (fun _ _ _ => aLen_cons (fun _ _ _ => aLen_cons (fun _ _ _ => aLen_nil)))))
  (sss_one (ss_ret (SE.le (se_call rfl tk (ok_covers_amid T) hr (by rfl) T.g_covers_amid T.F_covers_amid.kp T.b_covers_amid (sa_cons (SE.le (se_vS 0 (pv 0) rfl) .sb) (sa_cons (SE.le (se_vS 1 (pv 1) rfl) .sb) (sa_cons (SE.le (se_call rfl tk (ok_hung_ahead T) (hr.mono (by decide : 1 ≤ 2)) (by rfl) T.g_hung_ahead T.F_hung_ahead.kp T.b_hung_ahead (sa_cons (SE.le (se_vS 0 (pv 0) rfl) .sb) (sa_cons (SE.le (se_vS 1 (pv 1) rfl) .sb) sa_nil)) (fun _ _ _ => aLen_cons (fun _ _ _ => aLen_cons (fun _ _ _ => aLen_nil)))) .vb) (sa_cons (SE.le (se_len rfl T.m_len (sa_cons (se_vS 0 (pv 0) rfl) sa_nil)) .vb) sa_nil)))) (fun _ _ _ => aLen_cons (fun _ _ _ => aLen_cons (fun _ _ _ => aLen_cons (fun _ _ _ => aLen_cons (fun _ _ _ => aLen_nil)))))) .vl)))))
theorem ok_covers_both (T : Tp K mg) : FnOk P w K mg base (L2N.CX P w) 3 T.f_covers_both T.d_covers_both ps_covers_both (spP K (cvK K) 2 F_covers_both) :=
  fn_P N_covers_both ps_covers_both 2 2 (cf_covers_both K mg) B_covers_both rfl rfl T.F_covers_both sc_covers_both rfl (fun i h1 => by
    match i, h1 with
    | 0, _ => exact rfl
    | 1, _ => exact rfl
    | i + 2, h => exact absurd h (by simp)) (fun cdv A outer s H E hr tk pw =>
  (sss_cons (ss_if (st_val (se_call rfl tk (ok_is_within T) hr (by rfl) T.g_is_within T.F_is_within.kp T.b_is_within (sa_cons (SE.le (se_vS 0 (pv 0) rfl) .sb) (sa_cons (SE.le (se_vS 1 (pv 1) rfl) .sb) sa_nil)) (fun _ _ _ => aLen_cons (fun _ _ _ => aLen_cons (fun _ _ _ => aLen_nil))))) (sss_one (ss_ret (SE.le se_bl .vl))) sss_nil)
  (sss_one (ss_ret (SE.le (se_call rfl tk (ok_covers_amid T) hr (by rfl) T.g_covers_amid T.F_covers_amid.kp T.b_covers_amid (sa_cons (SE.le (se_vS 0 (pv 0) rfl) .sb) (sa_cons (SE.le (se_vS 1 (pv 1) rfl) .sb) (sa_cons (SE.le (se_call rfl tk (ok_hung_ahead T) (hr.mono (by decide : 1 ≤ 2)) (by rfl) T.g_hung_ahead T.F_hung_ahead.kp T.b_hung_ahead (sa_cons (SE.le (se_vS 0 (pv 0) rfl) .sb) (sa_cons (SE.le (se_vS 1 (pv 1) rfl) .sb) sa_nil)) (fun _ _ _ => aLen_cons (fun _ _ _ => aLen_cons (fun _ _ _ => aLen_nil)))) .vb) (sa_cons (SE.le (se_sub (se_len rfl T.m_len (sa_cons (se_vS 0 (pv 0) rfl) sa_nil)) (se_call rfl tk (ok_hung_behind T) (hr.mono (by decide : 1 ≤ 2)) (by rfl) T.g_hung_behind T.F_hung_behind.kp T.b_hung_behind (sa_cons (SE.le (se_vS 0 (pv 0) rfl) .sb) (sa_cons (SE.le (se_vS 1 (pv 1) rfl) .sb) sa_nil)) (fun _ _ _ => aLen_cons (fun _ _ _ => aLen_cons (fun _ _ _ => aLen_nil))))) .vb) sa_nil)))) (fun _ _ _ => aLen_cons (fun _ _ _ => aLen_cons (fun _ _ _ => aLen_cons (fun _ _ _ => aLen_cons (fun _ _ _ => aLen_nil)))))) .vl)))))
theorem ok__law_word (T : Tp K mg) : FnOk P w K mg base (L2N.CX P w) 3 T.f__law_word T.d__law_word ps__law_word (spP K (cvK K) 4 F__law_word_v2) :=
  fn_P N__law_word ps__law_word 7 4 (cf__law_word K mg) B__law_word_v2 rfl rfl T.F__law_word sc__law_word rfl (fun i h1 => by
    match i, h1 with
    | 0, _ => exact rfl
    | 1, _ => exact rfl
    | 2, _ => exact rfl
    | 3, _ => exact rfl
    | i + 4, h => exact absurd h (by simp)) (fun cdv A outer s H E hr tk pw =>
  (sss_cons (ss_setS (sg_of (i := 4) (SE.le se_str .vs) sc__law_word.nd rfl (Or.inr rfl)) rfl)
  (sss_cons (ss_setS (sg_of (i := 5) (SE.le (se_call rfl tk (ok__law_digit T) hr (by rfl) T.g__law_digit T.F__law_digit.kp T.b__law_digit (sa_cons (SE.le (se_vS 0 (pv 0) rfl) .sb) (sa_cons (SE.le (se_vS 1 (pv 1) rfl) .sb) (sa_cons (SE.le se_int .vb) sa_nil))) (fun _ _ _ => aLen_cons (fun _ _ _ => aLen_cons (fun _ _ _ => aLen_cons (fun _ _ _ => aLen_nil))))) .vs) sc__law_word.nd rfl (Or.inr rfl)) rfl)
  (sss_one (ss_ret (SE.le (SE.flat (se_lc (c := .S) (own := [(Str.ofString "k", 6)]) rfl (own1 rfl) rfl sc__law_word.nd (SI.w (si_range1 (by rfl) T.m_range (sa_cons (SE.le (se_vS 2 (pv 2) rfl) .sb) sa_nil))) (blkOk_by (own := [(Str.ofString "k", 6)]) (N := N__law_word) (sc := (defScope s__law_word)) (by decide +kernel)) (fun _ _ _ _ _ => (sgt_name (i := 6) (is := [6]) List.mem_cons_self rfl sc__law_word.nd rfl (Or.inl rfl))) (fun _ _ _ _ _ => sts_nil) (fun _ _ _ _ _ => (se_ix rfl (se_vS 4 (pv 4) rfl) (SE.le (se_mod (se_add (se_vS 5 (pv 5) rfl) (SE.le (se_call rfl takes0N (ok__law_digit T) hr (by rfl) T.g__law_digit T.F__law_digit.kp T.b__law_digit (sa_cons (SE.le (se_vS 0 (pv 0) rfl) .sb) (sa_cons (SE.le (se_add (se_add (se_vS 1 (pv 1) rfl) (SE.le se_int .vs)) (se_vS 6 (pv 6) rfl)) .sb) (sa_cons (SE.le (se_vS 3 (pv 3) rfl) .sb) sa_nil))) (fun _ _ _ => aLen_cons (fun _ _ _ => aLen_cons (fun _ _ _ => aLen_cons (fun _ _ _ => aLen_nil))))) .vs)) se_int) .vs) (fun _ _ => rfl))))) .vl))))))
theorem ok_all_covers (T : Tp K mg) : FnOk P w K mg base (L2N.CX P w) 4 T.f_all_covers T.d_all_covers ps_all_covers (spP K (cvK K) 1 F_all_covers) :=
  fn_P N_all_covers ps_all_covers 3 1 (cf_all_covers K mg) B_all_covers rfl rfl T.F_all_covers sc_all_covers rfl (fun i h1 => by
    match i, h1 with
    | 0, _ => exact rfl
    | i + 1, h => exact absurd h (by simp)) (fun cdv A outer s H E hr tk pw =>
  (sss_cons (ss_expr (se_call rfl tk (ok_need_signs T) (hr.mono (by decide : 1 ≤ 3)) (by rfl) T.g_need_signs T.F_need_signs.kp T.b_need_signs (sa_cons (SE.le (se_vS 0 (pv 0) rfl) .sb) sa_nil) (fun _ _ _ => aLen_cons (fun _ _ _ => aLen_nil))))
  (sss_cons (ss_expr (se_call rfl tk (ok_need_text T) (hr.mono (by decide : 1 ≤ 3)) (by rfl) T.g_need_text T.F_need_text.kp T.b_need_text (sa_cons (SE.le (se_vS 0 (pv 0) rfl) .sb) sa_nil) (fun _ _ _ => aLen_cons (fun _ _ _ => aLen_nil))))
  (sss_cons (ss_setS (sg_lc (i := 1) (c := .S) (own := [(Str.ofString "size", 2)]) rfl (own1 rfl) rfl sc_all_covers.nd rfl rfl (sw_true rfl rfl rfl (by decide +kernel)) (SI.w (si_list rfl (SE.le (se_call rfl tk (ok_borders T) (hr.mono (by decide : 2 ≤ 3)) (by rfl) T.g_borders T.F_borders.kp T.b_borders (sa_cons (SE.le (se_vS 0 (pv 0) rfl) .sb) sa_nil) (fun _ _ _ => aLen_cons (fun _ _ _ => aLen_nil))) .vs))) (blkOk_by (own := [(Str.ofString "size", 2)]) (N := N_all_covers) (sc := (defScope s_all_covers)) (by decide +kernel)) (fun _ _ _ _ _ => (sgt_name (i := 2) (is := [2]) List.mem_cons_self rfl sc_all_covers.nd rfl (Or.inl rfl))) (fun _ _ _ _ _ => (sts_one (st_and2 (st_gt (se_vS 2 (pv 2) rfl) se_int) (st_eq rfl hr.units (se_ix rfl (se_call rfl takes0N (ok_covered T) hr (by rfl) T.g_covered T.F_covered.kp T.b_covered (sa_cons (SE.le (se_vS 0 (pv 0) rfl) .sb) (sa_cons (SE.le (se_sl rfl (se_vS 0 (pv 0) rfl) so_none (so_some (se_vS 2 (pv 2) rfl))) .sb) sa_nil)) (fun _ _ _ => aLen_cons (fun _ _ _ => aLen_cons (fun _ _ _ => aLen_nil)))) se_int (fun _ _ => rfl)) se_str)))) (fun _ _ _ _ _ => (se_vS 2 (pv 2) rfl))) rfl)
  (sss_one (ss_ret (SE.le (SE.flat (se_add (se_vS 1 (pv 1) rfl) (SE.le (se_lst (sa_cons (se_len rfl T.m_len (sa_cons (se_vS 0 (pv 0) rfl) sa_nil)) sa_nil)) .vs))) .vl)))))))
theorem ok_fewest_layings (T : Tp K mg) : FnOk P w K mg base (L2N.CX P w) 4 T.f_fewest_layings T.d_fewest_layings ps_fewest_layings (spP K (cvK K) 2 F_fewest_layings) :=
  fn_P N_fewest_layings ps_fewest_layings 7 2 (cf_fewest_layings K mg) B_fewest_layings rfl rfl T.F_fewest_layings sc_fewest_layings rfl (fun i h1 => by
    match i, h1 with
    | 0, _ => exact rfl
    | 1, _ => exact rfl
    | i + 2, h => exact absurd h (by simp)) (fun cdv A outer s H E hr tk pw =>
  (sss_cons (ss_expr (se_call rfl tk (ok_need_both T) (hr.mono (by decide : 2 ≤ 3)) (by rfl) T.g_need_both T.F_need_both.kp T.b_need_both (sa_cons (SE.le (se_vS 0 (pv 0) rfl) .sb) (sa_cons (SE.le (se_vS 1 (pv 1) rfl) .sb) sa_nil)) (fun _ _ _ => aLen_cons (fun _ _ _ => aLen_cons (fun _ _ _ => aLen_nil)))))
  (sss_cons (ss_setS (sg_of (i := 2) (SE.le (se_call rfl tk (ok_onward T) hr (by rfl) T.g_onward T.F_onward.kp T.b_onward (sa_cons (SE.le (se_vS 0 (pv 0) rfl) .sb) (sa_cons (SE.le (se_vS 1 (pv 1) rfl) .sb) sa_nil)) (fun _ _ _ => aLen_cons (fun _ _ _ => aLen_cons (fun _ _ _ => aLen_nil)))) .vs) sc_fewest_layings.nd rfl (Or.inr rfl)) rfl)
  (sss_cons (ss_if (st_isN (se_dget1 hr.units (se_vS 2 (pv 2) rfl) (SE.le se_int .vs)) se_non) (sss_one (ss_raise rfl rfl rfl tk T.X_NoCover)) sss_nil)
  (sss_cons (ss_setM (sg_of (i := 3) (se_lst (sa_cons se_int sa_nil)) sc_fewest_layings.nd rfl (Or.inl rfl)) rfl)
  (sss_cons (ss_while WFUEL pw (st_gt (se_dix hr.units (se_vS 2 (pv 2) rfl) (SE.le (SE.scal (se_ix rfl (se_vM 3 (pv 3) rfl) (SE.le (se_neg se_int) .vl) (fun _ _ => rfl))) .vs)) se_int) (sss_cons (ss_setS (sg_of (i := 4) (SE.le (SE.scal (se_ix rfl (se_vM 3 (pv 3) rfl) (SE.le (se_neg se_int) .vl) (fun _ _ => rfl))) .vs) sc_fewest_layings.nd rfl (Or.inr rfl)) rfl)
  (sss_cons (ss_setS (sg_lc (i := 5) (c := .S) (own := [(Str.ofString "place", 6)]) rfl (own1 rfl) rfl sc_fewest_layings.nd rfl rfl (sw_true rfl rfl rfl (by decide +kernel)) (SI.w (si_list rfl (SE.le (se_sorted rfl rfl T.m_sorted (sa_cons (se_vS 2 (pv 2) rfl) sa_nil)) .vs))) (blkOk_by (own := [(Str.ofString "place", 6)]) (N := N_fewest_layings) (sc := (defScope s_fewest_layings)) (by decide +kernel)) (fun _ _ _ _ _ => (sgt_name (i := 6) (is := [6]) List.mem_cons_self rfl sc_fewest_layings.nd rfl (Or.inl rfl))) (fun _ _ _ _ _ => (sts_one (st_chain op_lt op_le (se_vS 4 (pv 4) rfl) (se_vS 6 (pv 6) rfl) (se_add (se_vS 4 (pv 4) rfl) (SE.le (se_len rfl T.m_len (sa_cons (se_vS 1 (pv 1) rfl) sa_nil)) .vs))))) (fun _ _ _ _ _ => (se_vS 6 (pv 6) rfl))) rfl)
  (sss_one (ss_app (i := 3) rfl (pv 3) rfl (SE.le (SE.scal (se_ix rfl (se_lc (c := .S) (own := [(Str.ofString "place", 6)]) rfl (own1 rfl) rfl sc_fewest_layings.nd (SI.w (si_list rfl (se_vS 5 (pv 5) rfl))) (blkOk_by (own := [(Str.ofString "place", 6)]) (N := N_fewest_layings) (sc := (defScope s_fewest_layings)) (by decide +kernel)) (fun _ _ _ _ _ => (sgt_name (i := 6) (is := [6]) List.mem_cons_self rfl sc_fewest_layings.nd rfl (Or.inl rfl))) (fun _ _ _ _ _ => (sts_one (st_eq rfl hr.units (se_dix hr.units (se_vS 2 (pv 2) rfl) (se_vS 6 (pv 6) rfl)) (se_sub (se_dix hr.units (se_vS 2 (pv 2) rfl) (se_vS 4 (pv 4) rfl)) se_int)))) (fun _ _ _ _ _ => (se_vS 6 (pv 6) rfl))) (SE.le se_int .vs) (fun _ _ => rfl))) .vn))))))
  (sss_one (ss_ret (se_vM 3 (pv 3) rfl)))))))))
theorem ok_fewest_wrong (T : Tp K mg) : FnOk P w K mg base (L2N.CX P w) 4 T.f_fewest_wrong T.d_fewest_wrong ps_fewest_wrong (spP K (cvK K) 2 F_fewest_wrong) :=
  fn_P N_fewest_wrong ps_fewest_wrong 3 2 (cf_fewest_wrong K mg) B_fewest_wrong rfl rfl T.F_fewest_wrong sc_fewest_wrong rfl (fun i h1 => by
    match i, h1 with
    | 0, _ => exact rfl
    | 1, _ => exact rfl
    | i + 2, h => exact absurd h (by simp)) (fun cdv A outer s H E hr tk pw =>
  (sss_cons (ss_expr (se_call rfl tk (ok_need_room T) (hr.mono (by decide : 2 ≤ 3)) (by rfl) T.g_need_room T.F_need_room.kp T.b_need_room (sa_cons (SE.le (se_vS 0 (pv 0) rfl) .sb) (sa_cons (SE.le (se_vS 1 (pv 1) rfl) .sb) sa_nil)) (fun _ _ _ => aLen_cons (fun _ _ _ => aLen_cons (fun _ _ _ => aLen_nil)))))
  (sss_cons (ss_setN (sg_of (i := 2) (SE.le (se_call rfl tk (ok_fewest_by T) hr (by rfl) T.g_fewest_by T.F_fewest_by.kp T.b_fewest_by (sa_cons (SE.le (se_vS 0 (pv 0) rfl) .sb) (sa_cons (SE.le (se_vS 1 (pv 1) rfl) .sb) sa_nil)) (fun _ _ _ => aLen_cons (fun _ _ _ => aLen_cons (fun _ _ _ => aLen_nil)))) .vn) sc_fewest_wrong.nd rfl (Or.inl rfl)) rfl)
  (sss_cons (ss_if (st_isN (se_vN 2 (pv 2) rfl) se_non) (sss_one (ss_raise rfl rfl rfl tk T.X_NoCover)) sss_nil)
  (sss_one (ss_ret (SE.le (se_vN 2 (pv 2) rfl) .nl)))))))
theorem ok_count_by (T : Tp K mg) : FnOk P w K mg base (L2N.CX P w) 4 T.f_count_by T.d_count_by ps_count_by (spP K (cvK K) 2 F_count_by) :=
  fn_P N_count_by ps_count_by 2 2 (cf_count_by K mg) B_count_by rfl rfl T.F_count_by sc_count_by rfl (fun i h1 => by
    match i, h1 with
    | 0, _ => exact rfl
    | 1, _ => exact rfl
    | i + 2, h => exact absurd h (by simp)) (fun cdv A outer s H E hr tk pw =>
  (sss_cons (ss_if (st_lt (se_vS 1 (pv 1) rfl) (se_len rfl T.m_len (sa_cons (se_vS 0 (pv 0) rfl) sa_nil))) (sss_one (ss_ret (SE.le se_int .vl))) sss_nil)
  (sss_one (ss_ret (SE.le (se_ix rfl (se_call rfl tk (ok_counts_to T) hr (by rfl) T.g_counts_to T.F_counts_to.kp T.b_counts_to (sa_cons (SE.le (se_vS 0 (pv 0) rfl) .sb) (sa_cons (SE.le (se_vS 1 (pv 1) rfl) .sb) sa_nil)) (fun _ _ _ => aLen_cons (fun _ _ _ => aLen_cons (fun _ _ _ => aLen_nil)))) (se_sub (se_vS 1 (pv 1) rfl) (se_len rfl T.m_len (sa_cons (se_vS 0 (pv 0) rfl) sa_nil))) (fun _ _ => rfl)) .vl)))))
theorem ok_rest_both (T : Tp K mg) : FnOk P w K mg base (L2N.CX P w) 4 T.f_rest_both T.d_rest_both ps_rest_both (spP K (cvK K) 2 F_rest_both) :=
  fn_P N_rest_both ps_rest_both 2 2 (cf_rest_both K mg) B_rest_both rfl rfl T.F_rest_both sc_rest_both rfl (fun i h1 => by
    match i, h1 with
    | 0, _ => exact rfl
    | 1, _ => exact rfl
    | i + 2, h => exact absurd h (by simp)) (fun cdv A outer s H E hr tk pw =>
  (sss_cons (ss_expr (se_call rfl tk (ok_need_both T) (hr.mono (by decide : 2 ≤ 3)) (by rfl) T.g_need_both T.F_need_both.kp T.b_need_both (sa_cons (SE.le (se_vS 0 (pv 0) rfl) .sb) (sa_cons (SE.le (se_vS 1 (pv 1) rfl) .sb) sa_nil)) (fun _ _ _ => aLen_cons (fun _ _ _ => aLen_cons (fun _ _ _ => aLen_nil)))))
  (sss_one (ss_ret (SE.le (se_call rfl tk (ok_covers_both T) hr (by rfl) T.g_covers_both T.F_covers_both.kp T.b_covers_both (sa_cons (SE.le (se_vS 0 (pv 0) rfl) .sb) (sa_cons (SE.le (se_vS 1 (pv 1) rfl) .sb) sa_nil)) (fun _ _ _ => aLen_cons (fun _ _ _ => aLen_cons (fun _ _ _ => aLen_nil)))) .vl)))))
theorem ok__law_longer (T : Tp K mg) : FnOk P w K mg base (L2N.CX P w) 4 T.f__law_longer T.d__law_longer ps__law_longer (spP K (cvK K) 1 F__law_longer) :=
  fn_P N__law_longer ps__law_longer 6 1 (cf__law_longer K mg) B__law_longer rfl rfl T.F__law_longer sc__law_longer rfl (fun i h1 => by
    match i, h1 with
    | 0, _ => exact rfl
    | i + 1, h => exact absurd h (by simp)) (fun cdv A outer s H E hr tk pw =>
  (sss_cons (ss_setS (sg_of (i := 1) (SE.le (se_add se_int (se_call rfl tk (ok__law_digit T) (hr.mono (by decide : 2 ≤ 3)) (by rfl) T.g__law_digit T.F__law_digit.kp T.b__law_digit (sa_cons (SE.le (se_vS 0 (pv 0) rfl) .sb) (sa_cons (SE.le se_int .vb) (sa_cons (SE.le (se_ix rfl (se_lst (sa_cons se_int (sa_cons se_int sa_nil))) (se_call rfl tk (ok__law_digit T) (hr.mono (by decide : 2 ≤ 3)) (by rfl) T.g__law_digit T.F__law_digit.kp T.b__law_digit (sa_cons (SE.le (se_vS 0 (pv 0) rfl) .sb) (sa_cons (SE.le se_int .vb) (sa_cons (SE.le se_int .vb) sa_nil))) (fun _ _ _ => aLen_cons (fun _ _ _ => aLen_cons (fun _ _ _ => aLen_cons (fun _ _ _ => aLen_nil))))) (fun _ _ => rfl)) .vb) sa_nil))) (fun _ _ _ => aLen_cons (fun _ _ _ => aLen_cons (fun _ _ _ => aLen_cons (fun _ _ _ => aLen_nil)))))) .vs) sc__law_longer.nd rfl (Or.inl rfl)) rfl)
  (sss_cons (ss_setS (sg_of (i := 2) (SE.le (se_join rfl se_str (sa_cons (se_call rfl tk (ok__law_word T) hr (by rfl) T.g__law_word T.F__law_word.kp T.b__law_word (sa_cons (SE.le (se_vS 0 (pv 0) rfl) .sb) (sa_cons (SE.le se_int .vb) (sa_cons (SE.le (se_vS 1 (pv 1) rfl) .sb) (sa_cons (SE.le se_int .vb) sa_nil)))) (fun _ _ _ => aLen_cons (fun _ _ _ => aLen_cons (fun _ _ _ => aLen_cons (fun _ _ _ => aLen_cons (fun _ _ _ => aLen_nil)))))) sa_nil)) .vs) sc__law_longer.nd rfl (Or.inl rfl)) rfl)
  (sss_cons (ss_setS (sg_of (i := 3) (SE.le (se_ix rfl (se_lst (sa_cons (SE.flat (se_add (SE.le se_str .vs) (se_vS 2 (pv 2) rfl))) (sa_cons (SE.flat (se_add (SE.le se_str .vs) (se_vS 2 (pv 2) rfl))) (sa_cons se_str (sa_cons se_str (sa_cons se_str sa_nil)))))) (se_call rfl tk (ok__law_digit T) (hr.mono (by decide : 2 ≤ 3)) (by rfl) T.g__law_digit T.F__law_digit.kp T.b__law_digit (sa_cons (SE.le (se_vS 0 (pv 0) rfl) .sb) (sa_cons (SE.le se_int .vb) (sa_cons (SE.le se_int .vb) sa_nil))) (fun _ _ _ => aLen_cons (fun _ _ _ => aLen_cons (fun _ _ _ => aLen_cons (fun _ _ _ => aLen_nil))))) (fun _ _ => rfl)) .vs) sc__law_longer.nd rfl (Or.inl rfl)) rfl)
  (sss_cons (ss_setS (sg_of (i := 4) (SE.le (se_call rfl tk (ok__law_digit T) (hr.mono (by decide : 2 ≤ 3)) (by rfl) T.g__law_digit T.F__law_digit.kp T.b__law_digit (sa_cons (SE.le (se_vS 0 (pv 0) rfl) .sb) (sa_cons (SE.le se_int .vb) (sa_cons (SE.le (se_add (se_len rfl T.m_len (sa_cons (se_vS 3 (pv 3) rfl) sa_nil)) se_int) .vb) sa_nil))) (fun _ _ _ => aLen_cons (fun _ _ _ => aLen_cons (fun _ _ _ => aLen_cons (fun _ _ _ => aLen_nil))))) .vs) sc__law_longer.nd rfl (Or.inl rfl)) rfl)
  (sss_cons (ss_setS (sg_of (i := 5) (SE.le (se_call0 rfl tk (ok__law_signs T) (hr.mono (by decide : 1 ≤ 3)) (by rfl) T.g__law_signs T.F__law_signs.kp T.b__law_signs) .vs) sc__law_longer.nd rfl (Or.inl rfl)) rfl)
  (sss_cons (ss_if (st_in rfl (se_sl rfl (se_vS 3 (pv 3) rfl) so_none (so_some se_int)) (se_lst (sa_cons se_str (sa_cons se_str sa_nil)))) (sss_one (ss_setS (sg_of (i := 5) (se_add (se_vS 5 (pv 5) rfl) (SE.le se_str .vs)) sc__law_longer.nd rfl (Or.inl rfl)) rfl)) sss_nil)
  (sss_one (ss_ret (SE.le (SE.flat (se_add (se_add (se_sl rfl (se_vS 3 (pv 3) rfl) so_none (so_some (se_vS 4 (pv 4) rfl))) (se_ix rfl (se_vS 5 (pv 5) rfl) (SE.le (se_call rfl tk (ok__law_digit T) (hr.mono (by decide : 2 ≤ 3)) (by rfl) T.g__law_digit T.F__law_digit.kp T.b__law_digit (sa_cons (SE.le (se_vS 0 (pv 0) rfl) .sb) (sa_cons (SE.le se_int .vb) (sa_cons (SE.le (se_len rfl T.m_len (sa_cons (se_vS 5 (pv 5) rfl) sa_nil)) .vb) sa_nil))) (fun _ _ _ => aLen_cons (fun _ _ _ => aLen_cons (fun _ _ _ => aLen_cons (fun _ _ _ => aLen_nil))))) .vs) (fun _ _ => rfl))) (se_sl rfl (se_vS 3 (pv 3) rfl) (so_some (se_vS 4 (pv 4) rfl)) so_none))) .vl))))))))))
theorem ok_shortest_cover (T : Tp K mg) : FnOk P w K mg base (L2N.CX P w) 5 T.f_shortest_cover T.d_shortest_cover ps_shortest_cover (spP K (cvK K) 1 F_shortest_cover) :=
  fn_P N_shortest_cover ps_shortest_cover 1 1 (cf_shortest_cover K mg) B_shortest_cover rfl rfl T.F_shortest_cover sc_shortest_cover rfl (fun i h1 => by
    match i, h1 with
    | 0, _ => exact rfl
    | i + 1, h => exact absurd h (by simp)) (fun cdv A outer s H E hr tk pw =>
  (sss_one (ss_ret (SE.le (se_ix rfl (se_call rfl tk (ok_all_covers T) hr (by rfl) T.g_all_covers T.F_all_covers.kp T.b_all_covers (sa_cons (SE.le (se_vS 0 (pv 0) rfl) .sb) sa_nil) (fun _ _ _ => aLen_cons (fun _ _ _ => aLen_nil))) se_int (fun _ _ => rfl)) .vl))))
theorem ok_count_covered (T : Tp K mg) : FnOk P w K mg base (L2N.CX P w) 5 T.f_count_covered T.d_count_covered ps_count_covered (spP K (cvK K) 2 F_count_covered) :=
  fn_P N_count_covered ps_count_covered 2 2 (cf_count_covered K mg) B_count_covered rfl rfl T.F_count_covered sc_count_covered rfl (fun i h1 => by
    match i, h1 with
    | 0, _ => exact rfl
    | 1, _ => exact rfl
    | i + 2, h => exact absurd h (by simp)) (fun cdv A outer s H E hr tk pw =>
  (sss_cons (ss_expr (se_call rfl tk (ok_need_whole_word T) (hr.mono (by decide : 2 ≤ 4)) (by rfl) T.g_need_whole_word T.F_need_whole_word.kp T.b_need_whole_word (sa_cons (SE.le (se_vS 0 (pv 0) rfl) .sb) sa_nil) (fun _ _ _ => aLen_cons (fun _ _ _ => aLen_nil))))
  (sss_cons (ss_expr (se_call rfl tk (ok_need_length T) (hr.mono (by decide : 1 ≤ 4)) (by rfl) T.g_need_length T.F_need_length.kp T.b_need_length (sa_cons (SE.le (se_vS 1 (pv 1) rfl) .sb) sa_nil) (fun _ _ _ => aLen_cons (fun _ _ _ => aLen_nil))))
  (sss_one (ss_ret (SE.le (se_call rfl tk (ok_count_by T) hr (by rfl) T.g_count_by T.F_count_by.kp T.b_count_by (sa_cons (SE.le (se_vS 0 (pv 0) rfl) .sb) (sa_cons (SE.le (se_vS 1 (pv 1) rfl) .sb) sa_nil)) (fun _ _ _ => aLen_cons (fun _ _ _ => aLen_cons (fun _ _ _ => aLen_nil)))) .vl))))))
theorem ok_Desk_yes_or_no (T : Tp K mg) : FnOk P w K mg base (L2N.CX P w) 5 T.f_Desk_yes_or_no T.d_Desk_yes_or_no ps_Desk_yes_or_no (spD K (cvK K) T.C_Desk 2 F_Desk_yes_or_no) :=
  fn_D N_Desk_yes_or_no ps_Desk_yes_or_no 3 2 (cf_Desk_yes_or_no K mg) B_Desk_yes_or_no rfl rfl T.F_Desk_yes_or_no sc_Desk_yes_or_no rfl rfl (fun i h1 h2 => by
    match i, h1, h2 with
    | 1, _, _ => exact rfl
    | i + 2, _, h => exact absurd h (by simp)) T.ob (fun cdv A outer s H E hr tk pw =>
  (sss_cons (ss_if (st_eq rfl hr.units (se_vS 1 (pv 1) rfl) se_int) (sss_one (ss_setS (sg_of (i := 2) (SE.le (se_call rfl tk (ok_rest_behind T) (hr.mono (by decide : 3 ≤ 4)) (by rfl) T.g_rest_behind T.F_rest_behind.kp T.b_rest_behind (sa_cons (SE.le (se_fld false rfl (pv 0) rfl T.ob T.cl_Desk T.nt_Desk) .sb) (sa_cons (SE.le (se_fld true rfl (pv 0) rfl T.ob T.cl_Desk T.nw_Desk) .sb) sa_nil)) (fun _ _ _ => aLen_cons (fun _ _ _ => aLen_cons (fun _ _ _ => aLen_nil)))) .vs) sc_Desk_yes_or_no.nd rfl (Or.inl rfl)) rfl)) (sss_one (ss_if (st_eq rfl hr.units (se_vS 1 (pv 1) rfl) se_int) (sss_one (ss_setS (sg_of (i := 2) (SE.le (se_call rfl tk (ok_rest_ahead T) (hr.mono (by decide : 3 ≤ 4)) (by rfl) T.g_rest_ahead T.F_rest_ahead.kp T.b_rest_ahead (sa_cons (SE.le (se_fld false rfl (pv 0) rfl T.ob T.cl_Desk T.nt_Desk) .sb) (sa_cons (SE.le (se_fld true rfl (pv 0) rfl T.ob T.cl_Desk T.nw_Desk) .sb) sa_nil)) (fun _ _ _ => aLen_cons (fun _ _ _ => aLen_cons (fun _ _ _ => aLen_nil)))) .vs) sc_Desk_yes_or_no.nd rfl (Or.inl rfl)) rfl)) (sss_one (ss_setS (sg_of (i := 2) (SE.le (se_call rfl tk (ok_rest_both T) hr (by rfl) T.g_rest_both T.F_rest_both.kp T.b_rest_both (sa_cons (SE.le (se_fld false rfl (pv 0) rfl T.ob T.cl_Desk T.nt_Desk) .sb) (sa_cons (SE.le (se_fld true rfl (pv 0) rfl T.ob T.cl_Desk T.nw_Desk) .sb) sa_nil)) (fun _ _ _ => aLen_cons (fun _ _ _ => aLen_cons (fun _ _ _ => aLen_nil)))) .vs) sc_Desk_yes_or_no.nd rfl (Or.inl rfl)) rfl)))))
  (sss_one (ss_ret (SE.le (se_ix rfl (se_lst (sa_cons se_str (sa_cons se_str sa_nil))) (se_int1 T.m_int (sa_cons (SE.le (se_vS 2 (pv 2) rfl) .sb) sa_nil)) (fun _ _ => rfl)) .vl)))))
theorem ok_Desk_of_both (T : Tp K mg) : FnOk P w K mg base (L2N.CX P w) 6 T.f_Desk_of_both T.d_Desk_of_both ps_Desk_of_both (spD K (cvK K) T.C_Desk 2 F_Desk_of_both) :=
  fn_D N_Desk_of_both ps_Desk_of_both 7 2 (cf_Desk_of_both K mg) B_Desk_of_both rfl rfl T.F_Desk_of_both sc_Desk_of_both rfl rfl (fun i h1 h2 => by
    match i, h1, h2 with
    | 1, _, _ => exact rfl
    | i + 2, _, h => exact absurd h (by simp)) T.ob (fun cdv A outer s H E hr tk pw =>
  (sss_cons (ss_if (st_eq rfl hr.units (se_vS 1 (pv 1) rfl) se_str) (sss_one (ss_ret (SE.le (se_call rfl tk (ok_numbers_text T) (hr.mono (by decide : 1 ≤ 5)) (by rfl) T.g_numbers_text T.F_numbers_text.kp T.b_numbers_text (sa_cons (SE.le (se_call rfl tk (ok_lies_at T) (hr.mono (by decide : 2 ≤ 5)) (by rfl) T.g_lies_at T.F_lies_at.kp T.b_lies_at (sa_cons (SE.le (se_fld false rfl (pv 0) rfl T.ob T.cl_Desk T.nt_Desk) .sb) (sa_cons (SE.le (se_fld true rfl (pv 0) rfl T.ob T.cl_Desk T.nw_Desk) .sb) sa_nil)) (fun _ _ _ => aLen_cons (fun _ _ _ => aLen_cons (fun _ _ _ => aLen_nil)))) .vb) sa_nil) (fun _ _ _ => aLen_cons (fun _ _ _ => aLen_nil))) .vl))) sss_nil)
  (sss_cons (ss_if (st_eq rfl hr.units (se_vS 1 (pv 1) rfl) se_str) (sss_cons (ss_unp (SE.le (se_call rfl tk (ok_covered T) (hr.mono (by decide : 3 ≤ 5)) (by rfl) T.g_covered T.F_covered.kp T.b_covered (sa_cons (SE.le (se_fld false rfl (pv 0) rfl T.ob T.cl_Desk T.nt_Desk) .sb) (sa_cons (SE.le (se_fld true rfl (pv 0) rfl T.ob T.cl_Desk T.nw_Desk) .sb) sa_nil)) (fun _ _ _ => aLen_cons (fun _ _ _ => aLen_cons (fun _ _ _ => aLen_nil)))) .vs) (sgt_tup (is := [2, 3]) (js := [2, 3]) rfl rfl (sgts_cons (i := 2) (by decide) rfl sc_Desk_of_both.nd rfl (Or.inl rfl) (sgts_cons (i := 3) (by decide) rfl sc_Desk_of_both.nd rfl (Or.inl rfl) sgts_nil)) rfl))
  (sss_cons (ss_if (st_eq rfl hr.units (se_vS 2 (pv 2) rfl) se_str) (sss_one (ss_ret (SE.le (se_add se_str (se_strI T.m_str (sa_cons (SE.le (se_len rfl T.m_len (sa_cons (se_vS 3 (pv 3) rfl) sa_nil)) .vb) sa_nil))) .vl))) sss_nil)
  (sss_one (ss_ret (SE.le (se_add se_str (se_strI T.m_str (sa_cons (SE.le (se_vS 3 (pv 3) rfl) .sb) sa_nil))) .vl))))) sss_nil)
  (sss_cons (ss_if (st_eq rfl hr.units (se_vS 1 (pv 1) rfl) se_str) (sss_one (ss_ret (SE.le (se_call rfl tk (ok_numbers_text T) (hr.mono (by decide : 1 ≤ 5)) (by rfl) T.g_numbers_text T.F_numbers_text.kp T.b_numbers_text (sa_cons (SE.le (se_call rfl tk (ok_fewest_layings T) (hr.mono (by decide : 4 ≤ 5)) (by rfl) T.g_fewest_layings T.F_fewest_layings.kp T.b_fewest_layings (sa_cons (SE.le (se_fld false rfl (pv 0) rfl T.ob T.cl_Desk T.nt_Desk) .sb) (sa_cons (SE.le (se_fld true rfl (pv 0) rfl T.ob T.cl_Desk T.nw_Desk) .sb) sa_nil)) (fun _ _ _ => aLen_cons (fun _ _ _ => aLen_cons (fun _ _ _ => aLen_nil)))) .vb) sa_nil) (fun _ _ _ => aLen_cons (fun _ _ _ => aLen_nil))) .vl))) sss_nil)
  (sss_cons (ss_if (st_eq rfl hr.units (se_vS 1 (pv 1) rfl) se_str) (sss_cons (ss_unp (SE.le (se_call rfl tk (ok_fewest_wrong T) (hr.mono (by decide : 4 ≤ 5)) (by rfl) T.g_fewest_wrong T.F_fewest_wrong.kp T.b_fewest_wrong (sa_cons (SE.le (se_fld false rfl (pv 0) rfl T.ob T.cl_Desk T.nt_Desk) .sb) (sa_cons (SE.le (se_fld true rfl (pv 0) rfl T.ob T.cl_Desk T.nw_Desk) .sb) sa_nil)) (fun _ _ _ => aLen_cons (fun _ _ _ => aLen_cons (fun _ _ _ => aLen_nil)))) .vs) (sgt_tup (is := [4, 5]) (js := [4, 5]) rfl rfl (sgts_cons (i := 4) (by decide) rfl sc_Desk_of_both.nd rfl (Or.inl rfl) (sgts_cons (i := 5) (by decide) rfl sc_Desk_of_both.nd rfl (Or.inl rfl) sgts_nil)) rfl))
  (sss_one (ss_ret (SE.le (se_add (se_add (se_strI T.m_str (sa_cons (SE.le (se_vS 4 (pv 4) rfl) .sb) sa_nil)) se_str) (se_call rfl tk (ok_numbers_text T) (hr.mono (by decide : 1 ≤ 5)) (by rfl) T.g_numbers_text T.F_numbers_text.kp T.b_numbers_text (sa_cons (SE.le (se_vS 5 (pv 5) rfl) .sb) sa_nil) (fun _ _ _ => aLen_cons (fun _ _ _ => aLen_nil)))) .vl)))) sss_nil)
  (sss_one (ss_ret (SE.le (se_join rfl se_str (sa_cons (se_lc (c := .V) (own := [(Str.ofString "k", 6)]) rfl (own1 rfl) rfl sc_Desk_of_both.nd (SI.w (si_range1 (by rfl) T.m_range (sa_cons (SE.le se_int .vb) sa_nil))) (blkOk_by (own := [(Str.ofString "k", 6)]) (N := N_Desk_of_both) (sc := (defScope s_Desk_of_both)) (by decide +kernel)) (fun _ _ _ _ _ => (sgt_name (i := 6) (is := [6]) List.mem_cons_self rfl sc_Desk_of_both.nd rfl (Or.inl rfl))) (fun _ _ _ _ _ => sts_nil) (fun _ _ _ _ _ => (se_methD rfl takes0N T.cl_Desk T.me_Desk_yes_or_no (ok_Desk_yes_or_no T) hr T.b_Desk_yes_or_no rfl T.ob (pv 0) (sa_cons (SE.le (se_vS 6 (pv 6) rfl) .sb) sa_nil) (aLen1 (fun _ _ _ => aLen_cons (fun _ _ _ => aLen_nil))) (dkF_no (by decide +kernel) (by decide +kernel))))) sa_nil)) .vl))))))))
theorem ok_Desk_of_text (T : Tp K mg) : FnOk P w K mg base (L2N.CX P w) 6 T.f_Desk_of_text T.d_Desk_of_text ps_Desk_of_text (spD K (cvK K) T.C_Desk 2 F_Desk_of_text) :=
  fn_D N_Desk_of_text ps_Desk_of_text 2 2 (cf_Desk_of_text K mg) B_Desk_of_text rfl rfl T.F_Desk_of_text sc_Desk_of_text rfl rfl (fun i h1 h2 => by
    match i, h1, h2 with
    | 1, _, _ => exact rfl
    | i + 2, _, h => exact absurd h (by simp)) T.ob (fun cdv A outer s H E hr tk pw =>
  (sss_cons (ss_if (st_eq rfl hr.units (se_vS 1 (pv 1) rfl) se_str) (sss_one (ss_ret (SE.le (se_call rfl tk (ok_numbers_text T) (hr.mono (by decide : 1 ≤ 5)) (by rfl) T.g_numbers_text T.F_numbers_text.kp T.b_numbers_text (sa_cons (SE.le (se_call rfl tk (ok_all_covers T) (hr.mono (by decide : 4 ≤ 5)) (by rfl) T.g_all_covers T.F_all_covers.kp T.b_all_covers (sa_cons (SE.le (se_fld false rfl (pv 0) rfl T.ob T.cl_Desk T.nt_Desk) .sb) sa_nil) (fun _ _ _ => aLen_cons (fun _ _ _ => aLen_nil))) .vb) sa_nil) (fun _ _ _ => aLen_cons (fun _ _ _ => aLen_nil))) .vl))) sss_nil)
  (sss_one (ss_ret (SE.le (se_join rfl (SE.le se_str .vs) (sa_cons (se_sl rfl (se_fld false rfl (pv 0) rfl T.ob T.cl_Desk T.nt_Desk) so_none (so_some (se_call rfl tk (ok_shortest_cover T) hr (by rfl) T.g_shortest_cover T.F_shortest_cover.kp T.b_shortest_cover (sa_cons (SE.le (se_fld false rfl (pv 0) rfl T.ob T.cl_Desk T.nt_Desk) .sb) sa_nil) (fun _ _ _ => aLen_cons (fun _ _ _ => aLen_nil))))) sa_nil)) .vl)))))
theorem ok_Desk_say (T : Tp K mg) : FnOk P w K mg base (L2N.CX P w) 7 T.f_Desk_say T.d_Desk_say ps_Desk_say (spD K (cvK K) T.C_Desk 2 F_Desk_say) :=
  fn_D N_Desk_say ps_Desk_say 3 2 (cf_Desk_say K mg) B_Desk_say rfl rfl T.F_Desk_say sc_Desk_say rfl rfl (fun i h1 h2 => by
    match i, h1, h2 with
    | 1, _, _ => exact rfl
    | i + 2, _, h => exact absurd h (by simp)) T.ob (fun cdv A outer s H E hr tk pw =>
  (sss_cons (ss_if (st_not (st_val (se_isi (T := "str") rfl (by decide) T.m_isinstance T.m_str (by decide +kernel) (se_vS 1 (pv 1) rfl)))) (sss_one (ss_raise rfl rfl rfl tk T.X_NoForm)) sss_nil)
  (sss_cons (ss_if (st_and2 (st_eq rfl hr.units (se_sl rfl (se_vS 1 (pv 1) rfl) so_none (so_some se_int)) se_str) (st_or2 (st_eq rfl hr.units (se_sl rfl (se_vS 1 (pv 1) rfl) (so_some se_int) so_none) se_str) (st_val (se_call rfl tk (ok_are_letters T) (hr.mono (by decide : 1 ≤ 6)) (by rfl) T.g_are_letters T.F_are_letters.kp T.b_are_letters (sa_cons (SE.le (se_sl rfl (se_vS 1 (pv 1) rfl) (so_some se_int) so_none) .sb) sa_nil) (fun _ _ _ => aLen_cons (fun _ _ _ => aLen_nil)))))) (sss_cons (ss_fld (i := 0) false rfl (pv 0) rfl T.ob T.cl_Desk T.nt_Desk (SE.le (SE.flat (se_lc (c := .S) (own := [(Str.ofString "sign", 2)]) rfl (own1 rfl) rfl sc_Desk_say.nd (SI.w (si_str (se_sl rfl (se_vS 1 (pv 1) rfl) (so_some se_int) so_none))) (blkOk_by (own := [(Str.ofString "sign", 2)]) (N := N_Desk_say) (sc := (defScope s_Desk_say)) (by decide +kernel)) (fun _ _ _ _ _ => (sgt_name (i := 2) (is := [2]) List.mem_cons_self rfl sc_Desk_say.nd rfl (Or.inl rfl))) (fun _ _ _ _ _ => (sts_one (st_ne rfl hr.units (se_vS 2 (pv 2) rfl) se_str))) (fun _ _ _ _ _ => (se_vS 2 (pv 2) rfl)))) .vn))
  (sss_one (ss_ret (SE.le (se_add se_str (se_strI T.m_str (sa_cons (SE.le (se_len rfl T.m_len (sa_cons (se_fld false rfl (pv 0) rfl T.ob T.cl_Desk T.nt_Desk) sa_nil)) .vb) sa_nil))) .vl)))) sss_nil)
  (sss_cons (ss_if (st_and2 (st_eq rfl hr.units (se_sl rfl (se_vS 1 (pv 1) rfl) so_none (so_some se_int)) se_str) (st_val (se_call rfl tk (ok_are_letters T) (hr.mono (by decide : 1 ≤ 6)) (by rfl) T.g_are_letters T.F_are_letters.kp T.b_are_letters (sa_cons (SE.le (se_sl rfl (se_vS 1 (pv 1) rfl) (so_some se_int) so_none) .sb) sa_nil) (fun _ _ _ => aLen_cons (fun _ _ _ => aLen_nil))))) (sss_cons (ss_fld (i := 0) true rfl (pv 0) rfl T.ob T.cl_Desk T.nw_Desk (SE.le (SE.flat (se_list1 rfl T.m_list (sa_cons (se_sl rfl (se_vS 1 (pv 1) rfl) (so_some se_int) so_none) sa_nil))) .vn))
  (sss_one (ss_ret (SE.le (se_add se_str (se_strI T.m_str (sa_cons (SE.le (se_len rfl T.m_len (sa_cons (se_fld true rfl (pv 0) rfl T.ob T.cl_Desk T.nw_Desk) sa_nil)) .vb) sa_nil))) .vl)))) sss_nil)
  (sss_cons (ss_if (st_and2 (st_eq rfl hr.units (se_sl rfl (se_vS 1 (pv 1) rfl) so_none (so_some se_int)) se_str) (st_val (se_call rfl tk (ok_is_length T) (hr.mono (by decide : 1 ≤ 6)) (by rfl) T.g_is_length T.F_is_length.kp T.b_is_length (sa_cons (SE.le (se_sl rfl (se_vS 1 (pv 1) rfl) (so_some se_int) so_none) .sb) sa_nil) (fun _ _ _ => aLen_cons (fun _ _ _ => aLen_nil))))) (sss_cons (ss_expr (se_methD rfl tk T.cl_Desk T.me_Desk_need_told (ok_Desk_need_told T) (hr.mono (by decide : 1 ≤ 6)) T.b_Desk_need_told rfl T.ob (pv 0) (sa_cons (SE.le se_bl .vb) (sa_cons (SE.le se_bl .vb) sa_nil)) (aLen1 (fun _ _ _ => aLen_cons (fun _ _ _ => aLen_cons (fun _ _ _ => aLen_nil)))) (dkF_no (by decide +kernel) (by decide +kernel))))
  (sss_one (ss_ret (SE.le (se_strI T.m_str (sa_cons (SE.le (se_call rfl tk (ok_count_covered T) (hr.mono (by decide : 5 ≤ 6)) (by rfl) T.g_count_covered T.F_count_covered.kp T.b_count_covered (sa_cons (SE.le (se_fld true rfl (pv 0) rfl T.ob T.cl_Desk T.nw_Desk) .sb) (sa_cons (SE.le (se_intT T.m_int (sa_cons (SE.le (se_sl rfl (se_vS 1 (pv 1) rfl) (so_some se_int) so_none) .sb) sa_nil)) .vb) sa_nil)) (fun _ _ _ => aLen_cons (fun _ _ _ => aLen_cons (fun _ _ _ => aLen_nil)))) .vb) sa_nil)) .vl)))) sss_nil)
  (sss_cons (ss_if (st_or2 (st_eq rfl hr.units (se_vS 1 (pv 1) rfl) se_str) (st_eq rfl hr.units (se_vS 1 (pv 1) rfl) se_str)) (sss_cons (ss_expr (se_methD rfl tk T.cl_Desk T.me_Desk_need_told (ok_Desk_need_told T) (hr.mono (by decide : 1 ≤ 6)) T.b_Desk_need_told rfl T.ob (pv 0) (sa_cons (SE.le se_bl .vb) (sa_cons (SE.le se_bl .vb) sa_nil)) (aLen1 (fun _ _ _ => aLen_cons (fun _ _ _ => aLen_cons (fun _ _ _ => aLen_nil)))) (dkF_no (by decide +kernel) (by decide +kernel))))
  (sss_one (ss_ret (SE.le (se_methD rfl tk T.cl_Desk T.me_Desk_of_text (ok_Desk_of_text T) hr T.b_Desk_of_text rfl T.ob (pv 0) (sa_cons (SE.le (se_vS 1 (pv 1) rfl) .sb) sa_nil) (aLen1 (fun _ _ _ => aLen_cons (fun _ _ _ => aLen_nil))) (dkF_no (by decide +kernel) (by decide +kernel))) .vl)))) sss_nil)
  (sss_cons (ss_if (st_in rfl (se_vS 1 (pv 1) rfl) (se_tup (sa_cons se_str (sa_cons se_str (sa_cons se_str (sa_cons se_str (sa_cons se_str sa_nil))))))) (sss_cons (ss_expr (se_methD rfl tk T.cl_Desk T.me_Desk_need_told (ok_Desk_need_told T) (hr.mono (by decide : 1 ≤ 6)) T.b_Desk_need_told rfl T.ob (pv 0) (sa_cons (SE.le se_bl .vb) (sa_cons (SE.le se_bl .vb) sa_nil)) (aLen1 (fun _ _ _ => aLen_cons (fun _ _ _ => aLen_cons (fun _ _ _ => aLen_nil)))) (dkF_no (by decide +kernel) (by decide +kernel))))
  (sss_one (ss_ret (SE.le (se_methD rfl tk T.cl_Desk T.me_Desk_of_both (ok_Desk_of_both T) hr T.b_Desk_of_both rfl T.ob (pv 0) (sa_cons (SE.le (se_vS 1 (pv 1) rfl) .sb) sa_nil) (aLen1 (fun _ _ _ => aLen_cons (fun _ _ _ => aLen_nil))) (dkF_no (by decide +kernel) (by decide +kernel))) .vl)))) sss_nil)
  (sss_one (ss_raise rfl rfl rfl tk T.X_NoForm)))))))))
theorem ok__law_said (T : Tp K mg) : FnOk P w K mg base (L2N.CX P w) 8 T.f__law_said T.d__law_said ps__law_said (spD K (cvK K) T.C_Desk 2 F__law_said_v8) :=
  fn_D N__law_said ps__law_said 4 2 (cf__law_said K mg) B__law_said_v8 rfl rfl T.F__law_said sc__law_said rfl rfl (fun i h1 h2 => by
    match i, h1, h2 with
    | 1, _, _ => exact rfl
    | i + 2, _, h => exact absurd h (by simp)) T.ob (fun cdv A outer s H E hr tk pw =>
  (sss_cons (ss_setN (sg_of (i := 2) (SE.le se_non .vn) sc__law_said.nd rfl (Or.inl rfl)) rfl)
  (sss_cons (ss_tryH (cs := [(Str.ofString "NoWord"), (Str.ofString "NoSign"), (Str.ofString "NoText"), (Str.ofString "NoCover"), (Str.ofString "NoNumber"), (Str.ofString "NoForm"), (Str.ofString "NoneYet")]) (j := 3) rfl rfl rfl rfl rfl sc__law_said.nd rfl rfl rfl ⟨rfl, by decide, .inl T.X_CoverError.g⟩ tk (List.forall_mem_cons.mpr ⟨(exm_cv T.X_NoWord T.X_CoverError T.S_NoWord_CoverError), (List.forall_mem_cons.mpr ⟨(exm_cv T.X_NoSign T.X_CoverError T.S_NoSign_CoverError), (List.forall_mem_cons.mpr ⟨(exm_cv T.X_NoText T.X_CoverError T.S_NoText_CoverError), (List.forall_mem_cons.mpr ⟨(exm_cv T.X_NoCover T.X_CoverError T.S_NoCover_CoverError), (List.forall_mem_cons.mpr ⟨(exm_cv T.X_NoNumber T.X_CoverError T.S_NoNumber_CoverError), (List.forall_mem_cons.mpr ⟨(exm_cv T.X_NoForm T.X_CoverError T.S_NoForm_CoverError), (List.forall_mem_cons.mpr ⟨(exm_cv T.X_NoneYet T.X_CoverError T.S_NoneYet_CoverError), (fun _ h => nomatch h)⟩)⟩)⟩)⟩)⟩)⟩)⟩) (fun W pn xe tk pw => (sss_one (ss_setN (sg_of (i := 2) (SE.le (se_methD rfl tk T.cl_Desk T.me_Desk_say (ok_Desk_say T) hr T.b_Desk_say rfl T.ob (pv 0) (sa_cons (SE.le (se_vS 1 (pv 1) rfl) .sb) sa_nil) (aLen1 (fun _ _ _ => aLen_cons (fun _ _ _ => aLen_nil))) (dkF_no (by decide +kernel) (by decide +kernel))) .vn) sc__law_said.nd rfl (Or.inl rfl)) rfl))) (fun a pn tk => (sss_one (ss_setN (sg_of (i := 2) (SE.le (se_callHot rfl tk (ok__law_class T) ⟨(hr.mono (by decide : 1 ≤ 7)).dp, (hr.mono (by decide : 1 ≤ 7)).un⟩ (by rfl) T.g__law_class T.F__law_class.kp T.b__law_class (sa_cons (SE.le (se_vS 3 (pv 3) rfl) .sb) sa_nil) (fun _ _ _ => aLen_cons (fun _ _ _ => aLen_nil))) .vn) sc__law_said.nd rfl (Or.inl rfl)) rfl))))
  (sss_one (ss_ret (SE.le (se_vN 2 (pv 2) rfl) .nl))))))
theorem ok_law (T : Tp K mg) : FnOk P w K mg base CX0 9 T.f_law T.d_law ps_law (spLaw K F_law_k47) :=
  fn_law N_law 10 (cf_law K mg) B_law_k47 rfl T.F_law sc_law rfl rfl (fun cdv A outer s H E hr =>
  (sss_cons (ss_setS (sg_of (i := 1) (SE.le (se_callQ rfl takes0N (ok__law_cell_at T) (hr.mono (by decide : 1 ≤ 8)) (by rfl) T.g__law_cell_at T.F__law_cell_at.kp T.b__law_cell_at rfl (pv 0) (sa_cons (SE.le se_int .vb) sa_nil) (aLen1 (fun _ _ _ => aLen_cons (fun _ _ _ => aLen_nil)))) .vs) sc_law.nd rfl (Or.inl rfl)) rfl)
  (sss_cons (ss_mkD (i := 2) rfl (by decide) T.ob T.mk_Desk (ok_Desk_init T) (hr.mono (by decide : 2 ≤ 8)) rfl T.g_Desk T.bI_Desk sc_law.nd rfl (Or.inl rfl))
  (sss_cons (ss_setS (sg_of (i := 3) (SE.le (se_add (se_mul (se_lst (sa_cons se_bl sa_nil)) se_int) (se_lst (sa_cons se_bl (sa_cons se_bl sa_nil)))) .vs) sc_law.nd rfl (Or.inl rfl)) rfl)
  (sss_cons (ss_if (st_eq rfl hr.units (se_call rfl takes0N (ok__law_digit T) (hr.mono (by decide : 2 ≤ 8)) (by rfl) T.g__law_digit T.F__law_digit.kp T.b__law_digit (sa_cons (SE.le (se_vS 1 (pv 1) rfl) .sb) (sa_cons (SE.le se_int .vb) (sa_cons (SE.le se_int .vb) sa_nil))) (fun _ _ _ => aLen_cons (fun _ _ _ => aLen_cons (fun _ _ _ => aLen_cons (fun _ _ _ => aLen_nil))))) se_int) (sss_cons (ss_expr (se_methD rfl takes0N T.cl_Desk T.me_Desk_say (ok_Desk_say T) (hr.mono (by decide : 7 ≤ 8)) T.b_Desk_say rfl T.ob (pv 2) (sa_cons (SE.le se_str .vb) sa_nil) (aLen1 (fun _ _ _ => aLen_cons (fun _ _ _ => aLen_nil))) (dkF_no (by decide +kernel) (by decide +kernel))))
  (sss_cons (ss_expr (se_methD rfl takes0N T.cl_Desk T.me_Desk_say (ok_Desk_say T) (hr.mono (by decide : 7 ≤ 8)) T.b_Desk_say rfl T.ob (pv 2) (sa_cons (SE.le se_str .vb) sa_nil) (aLen1 (fun _ _ _ => aLen_cons (fun _ _ _ => aLen_nil))) (dkF_no (by decide +kernel) (by decide +kernel))))
  (sss_one (ss_setS (sg_of (i := 3) (SE.le se_str .vs) sc_law.nd rfl (Or.inl rfl)) rfl)))) sss_nil)
  (sss_cons (ss_setS (sg_of (i := 4) (SE.le (se_call0 rfl takes0N (ok__law_menu T) (hr.mono (by decide : 1 ≤ 8)) (by rfl) T.g__law_menu T.F__law_menu.kp T.b__law_menu) .vs) sc_law.nd rfl (Or.inl rfl)) rfl)
  (sss_cons (ss_setS (sg_of (i := 5) (SE.le (se_add (se_add (se_mul (se_lst (sa_cons se_bl sa_nil)) se_int) (se_lst (sa_cons se_bl sa_nil))) (se_mul (se_lst (sa_cons se_bl sa_nil)) se_int)) .vs) sc_law.nd rfl (Or.inl rfl)) rfl)
  (sss_cons (ss_for PassesOwn.never rfl (si_str (se_add (se_call0 rfl takes0N (ok__law_signs T) (hr.mono (by decide : 1 ≤ 8)) (by rfl) T.g__law_signs T.F__law_signs.kp T.b__law_signs) se_str)) (sgt_name (i := 6) (is := [6]) List.mem_cons_self rfl sc_law.nd rfl (Or.inl rfl)) (sss_one (ss_if (st_ne rfl hr.units (se_lst (sa_cons (se_callD rfl takes0N (ok__law_said T) hr (by rfl) T.g__law_said T.F__law_said.kp T.b__law_said rfl T.ob (pv 2) (sa_cons (SE.le (se_add (se_add (SE.le se_str .vs) (se_vS 6 (pv 6) rfl)) (SE.le se_str .vs)) .sb) sa_nil) (aLen1 (fun _ _ _ => aLen_cons (fun _ _ _ => aLen_nil)))) (sa_cons (se_callD rfl takes0N (ok__law_said T) hr (by rfl) T.g__law_said T.F__law_said.kp T.b__law_said rfl T.ob (pv 2) (sa_cons (SE.le (se_add (se_add (SE.le se_str .vs) (se_vS 6 (pv 6) rfl)) (SE.le se_str .vs)) .sb) sa_nil) (aLen1 (fun _ _ _ => aLen_cons (fun _ _ _ => aLen_nil)))) sa_nil))) (se_lst (sa_cons (se_vS 5 (pv 5) rfl) (sa_cons (se_vS 5 (pv 5) rfl) sa_nil)))) (sss_one (ss_ret (SE.le se_bl .vl))) sss_nil)))
  (sss_cons (ss_for PassesOwn.never rfl (si_range1 (by rfl) T.m_range (sa_cons (SE.le (se_min2 rfl T.m_min (sa_cons (SE.le se_int .vb) (sa_cons (SE.le (se_add se_int (se_lenQ rfl T.m_len (pv 0) rfl)) .vb) sa_nil))) .vb) sa_nil)) (sgt_name (i := 7) (is := [7]) List.mem_cons_self rfl sc_law.nd rfl (Or.inl rfl)) (sss_cons (ss_setS (sg_of (i := 8) (SE.le (se_callQ rfl takes0N (ok__law_cell_at T) (hr.mono (by decide : 1 ≤ 8)) (by rfl) T.g__law_cell_at T.F__law_cell_at.kp T.b__law_cell_at rfl (pv 0) (sa_cons (SE.le (se_vS 7 (pv 7) rfl) .sb) sa_nil) (aLen1 (fun _ _ _ => aLen_cons (fun _ _ _ => aLen_nil)))) .vs) sc_law.nd rfl (Or.inl rfl)) rfl)
  (sss_cons (ss_setS (sg_of (i := 9) (se_ix rfl (se_vS 4 (pv 4) rfl) (SE.le (se_mod (se_add (se_add (SE.le (se_call rfl takes0N (ok__law_digit T) (hr.mono (by decide : 2 ≤ 8)) (by rfl) T.g__law_digit T.F__law_digit.kp T.b__law_digit (sa_cons (SE.le (se_vS 1 (pv 1) rfl) .sb) (sa_cons (SE.le se_int .vb) (sa_cons (SE.le (se_len rfl T.m_len (sa_cons (se_vS 4 (pv 4) rfl) sa_nil)) .vb) sa_nil))) (fun _ _ _ => aLen_cons (fun _ _ _ => aLen_cons (fun _ _ _ => aLen_cons (fun _ _ _ => aLen_nil))))) .vs) (se_mul (se_vS 7 (pv 7) rfl) (SE.le se_int .vs))) (SE.le (se_call rfl takes0N (ok__law_digit T) (hr.mono (by decide : 2 ≤ 8)) (by rfl) T.g__law_digit T.F__law_digit.kp T.b__law_digit (sa_cons (SE.le (se_vS 8 (pv 8) rfl) .sb) (sa_cons (SE.le se_int .vb) (sa_cons (SE.le se_int .vb) sa_nil))) (fun _ _ _ => aLen_cons (fun _ _ _ => aLen_cons (fun _ _ _ => aLen_cons (fun _ _ _ => aLen_nil))))) .vs)) (se_len rfl T.m_len (sa_cons (se_vS 4 (pv 4) rfl) sa_nil))) .vs) (fun _ _ => rfl)) sc_law.nd rfl (Or.inl rfl)) rfl)
  (sss_cons (ss_if (st_eq rfl hr.units (se_call rfl takes0N (ok__law_digit T) (hr.mono (by decide : 2 ≤ 8)) (by rfl) T.g__law_digit T.F__law_digit.kp T.b__law_digit (sa_cons (SE.le (se_vS 8 (pv 8) rfl) .sb) (sa_cons (SE.le se_int .vb) (sa_cons (SE.le se_int .vb) sa_nil))) (fun _ _ _ => aLen_cons (fun _ _ _ => aLen_cons (fun _ _ _ => aLen_cons (fun _ _ _ => aLen_nil))))) se_int) (sss_one (ss_setS (sg_of (i := 9) (SE.le (se_call rfl takes0N (ok__law_longer T) (hr.mono (by decide : 4 ≤ 8)) (by rfl) T.g__law_longer T.F__law_longer.kp T.b__law_longer (sa_cons (SE.le (se_vS 8 (pv 8) rfl) .sb) sa_nil) (fun _ _ _ => aLen_cons (fun _ _ _ => aLen_nil))) .vs) sc_law.nd rfl (Or.inl rfl)) rfl)) sss_nil)
  (sss_one (ss_if (st_or2 (st_ne rfl hr.units (se_callD rfl takes0N (ok__law_said T) hr (by rfl) T.g__law_said T.F__law_said.kp T.b__law_said rfl T.ob (pv 2) (sa_cons (SE.le (se_vS 9 (pv 9) rfl) .sb) sa_nil) (aLen1 (fun _ _ _ => aLen_cons (fun _ _ _ => aLen_nil)))) (se_vS 5 (pv 5) rfl)) (st_ne rfl hr.units (se_callD rfl takes0N (ok__law_said T) hr (by rfl) T.g__law_said T.F__law_said.kp T.b__law_said rfl T.ob (pv 2) (sa_cons (SE.le se_str .vb) sa_nil) (aLen1 (fun _ _ _ => aLen_cons (fun _ _ _ => aLen_nil)))) (se_vS 3 (pv 3) rfl))) (sss_one (ss_ret (SE.le se_bl .vl))) sss_nil))))))
  (sss_one (ss_ret (SE.le se_bl .vl))))))))))))
end
theorem all_mk {l : PySem.W.OpenLaw} {w : World} {K : PySem.W.Frag} {h : Heap} {mg : Str → Option Value} {fa : Addr} {f0 f1 f2 f3 f4 f5 f6 f7 f8 f9 f10 f11 f12 f13 f14 f15 f16 f17 f18 f19 f20 f21 f22 f23 f24 f25 f26 f27 f28 f29 f30 f31 f32 f33 f34 f35 f36 f37 f38 f39 f40 f41 f42 f43 f44 f45 f46 f47 f48 f49 f50 f51 : Addr} {od0 an0 od1 an1 od2 an2 od3 an3 od4 an4 od5 an5 od6 an6 od7 an7 od8 an8 od9 an9 od10 an10 od11 an11 od12 an12 od13 an13 od14 an14 od15 an15 od16 an16 od17 an17 od18 an18 od19 an19 od20 an20 od21 an21 od22 an22 od23 an23 od24 an24 od25 an25 od26 an26 od27 an27 od28 an28 od29 an29 od30 an30 od31 an31 od32 an32 od33 an33 od34 an34 od35 an35 od36 an36 od37 an37 od38 an38 od39 an39 od40 an40 od41 an41 od42 an42 od43 an43 od44 an44 od45 an45 od46 an46 od47 an47 od48 an48 od49 an49 od50 an50 od51 an51 : Option Addr} {sl0 sl1 sl2 sl3 sl4 sl5 sl6 sl7 sl8 sl9 sl10 sl11 sl12 sl13 sl14 sl15 sl16 sl17 sl18 sl19 sl20 sl21 sl22 sl23 sl24 sl25 sl26 sl27 sl28 sl29 sl30 sl31 sl32 sl33 sl34 sl35 sl36 sl37 sl38 sl39 sl40 sl41 sl42 sl43 sl44 sl45 sl46 sl47 sl48 sl49 sl50 sl51 : Array (Option Value)} {oc0 kV0 dc0 pm0 cd0 ct0 oc1 kV1 dc1 pm1 cd1 ct1 oc2 kV2 dc2 pm2 cd2 ct2 oc3 kV3 dc3 pm3 cd3 ct3 oc4 kV4 dc4 pm4 cd4 ct4 oc5 kV5 dc5 pm5 cd5 ct5 oc6 kV6 dc6 pm6 cd6 ct6 oc7 kV7 dc7 pm7 cd7 ct7 oc8 kV8 dc8 pm8 cd8 ct8 oc9 kV9 dc9 pm9 cd9 ct9 oc10 kV10 dc10 pm10 cd10 ct10 oc11 kV11 dc11 pm11 cd11 ct11 oc12 kV12 dc12 pm12 cd12 ct12 oc13 kV13 dc13 pm13 cd13 ct13 oc14 kV14 dc14 pm14 cd14 ct14 oc15 kV15 dc15 pm15 cd15 ct15 oc16 kV16 dc16 pm16 cd16 ct16 oc17 kV17 dc17 pm17 cd17 ct17 oc18 kV18 dc18 pm18 cd18 ct18 oc19 kV19 dc19 pm19 cd19 ct19 oc20 kV20 dc20 pm20 cd20 ct20 oc21 kV21 dc21 pm21 cd21 ct21 oc22 kV22 dc22 pm22 cd22 ct22 oc23 kV23 dc23 pm23 cd23 ct23 oc24 kV24 dc24 pm24 cd24 ct24 oc25 kV25 dc25 pm25 cd25 ct25 oc26 kV26 dc26 pm26 cd26 ct26 oc27 kV27 dc27 pm27 cd27 ct27 oc28 kV28 dc28 pm28 cd28 ct28 oc29 kV29 dc29 pm29 cd29 ct29 oc30 kV30 dc30 pm30 cd30 ct30 oc31 kV31 dc31 pm31 cd31 ct31 oc32 kV32 dc32 pm32 cd32 ct32 oc33 kV33 dc33 pm33 cd33 ct33 oc34 kV34 dc34 pm34 cd34 ct34 oc35 kV35 dc35 pm35 cd35 ct35 oc36 kV36 dc36 pm36 cd36 ct36 oc37 kV37 dc37 pm37 cd37 ct37 oc38 kV38 dc38 pm38 cd38 ct38 oc39 kV39 dc39 pm39 cd39 ct39 oc40 kV40 dc40 pm40 cd40 ct40 oc41 kV41 dc41 pm41 cd41 ct41 oc42 kV42 dc42 pm42 cd42 ct42 oc43 kV43 dc43 pm43 cd43 ct43 oc44 kV44 dc44 pm44 cd44 ct44 oc45 kV45 dc45 pm45 cd45 ct45 oc46 kV46 dc46 pm46 cd46 ct46 oc47 kV47 dc47 pm47 cd47 ct47 oc48 kV48 dc48 pm48 cd48 ct48 oc49 kV49 dc49 pm49 cd49 ct49 oc50 kV50 dc50 pm50 cd50 ct50 oc51 kV51 dc51 pm51 cd51 ct51 : Value} {t0 t1 t2 t3 : Tok} {cc0 cc1 cc2 cc3 cc4 cc5 cc6 cc7 cc8 cc9 : Addr} (X : K.In h) (G : h.Ns mainGlobals mg) (hfa : mg (Str.ofString "law") = some (.ref fa))
    {cD fI : Addr} {odI anI : Option Addr} {slI : Array (Option Value)} {ocI kVI dcI pmI cdI ctI : Value}
    (qC : PySem.W.nsIn K mainGlobals (Str.ofString "Desk") = some (some (.ref cD)))
    (qa : PySem.W.findIn K (.ref cD) "__init__" = some (some (.ref fI)))
    (qi : PySem.W.isFn K (.ref fI) = true)
    (ql : K.lookup fI = some ⟨ocI, odI, .func (PySem.W.fnOf (Str.ofString "__init__") (Str.ofString "Desk.__init__") (defArgs s_Desk_init) (defBody s_Desk_init) (defScope s_Desk_init) .none kVI dcI pmI anI cdI ctI), slI⟩)
    (qc : PySem.W.codeIn K cdI (Str.ofString "Desk.__init__") = true)
    (qk : PySem.W.keepIn K (.ref fI) = true)
    (qg : PySem.W.plainGet K cD Str.empty = true)
    (qd : PySem.W.hasDictIn K cD = true)
    (qo : PySem.W.plainOver K cD = true)
    (qs : PySem.W.findIn K (.ref cD) "__setattr__" = some (some (.builtin "object.__setattr__")))
    (qm : PySem.W.makesIn K cD = true)
    (qp : PySem.W.keepIn K (.ref cD) = true)
    (qt : PySem.W.findIn K (.ref cD) (Str.ofString "text") = some none)
    (qw : PySem.W.findIn K (.ref cD) (Str.ofString "word") = some none)
    (a0 : PySem.W.nsIn K mainGlobals (Str.ofString "need_word") = some (some (.ref f0))) (l0 : K.lookup f0 = some ⟨oc0, od0, .func (PySem.W.fnOf (Str.ofString "need_word") (Str.ofString "need_word") (defArgs s_need_word) (defBody s_need_word) (defScope s_need_word) .none kV0 dc0 pm0 an0 cd0 ct0), sl0⟩) (c0 : PySem.W.codeIn K cd0 (Str.ofString "need_word") = true) (k0 : PySem.W.keepIn K (.ref f0) = true)
    (a1 : PySem.W.nsIn K mainGlobals (Str.ofString "need_signs") = some (some (.ref f1))) (l1 : K.lookup f1 = some ⟨oc1, od1, .func (PySem.W.fnOf (Str.ofString "need_signs") (Str.ofString "need_signs") (defArgs s_need_signs) (defBody s_need_signs) (defScope s_need_signs) .none kV1 dc1 pm1 an1 cd1 ct1), sl1⟩) (c1 : PySem.W.codeIn K cd1 (Str.ofString "need_signs") = true) (k1 : PySem.W.keepIn K (.ref f1) = true)
    (a2 : PySem.W.nsIn K mainGlobals (Str.ofString "need_text") = some (some (.ref f2))) (l2 : K.lookup f2 = some ⟨oc2, od2, .func (PySem.W.fnOf (Str.ofString "need_text") (Str.ofString "need_text") (defArgs s_need_text) (defBody s_need_text) (defScope s_need_text) .none kV2 dc2 pm2 an2 cd2 ct2), sl2⟩) (c2 : PySem.W.codeIn K cd2 (Str.ofString "need_text") = true) (k2 : PySem.W.keepIn K (.ref f2) = true)
    (a3 : PySem.W.nsIn K mainGlobals (Str.ofString "greatest_borders") = some (some (.ref f3))) (l3 : K.lookup f3 = some ⟨oc3, od3, .func (PySem.W.fnOf (Str.ofString "greatest_borders") (Str.ofString "greatest_borders") (defArgs s_greatest_borders) (defBody s_greatest_borders) (defScope s_greatest_borders) .none kV3 dc3 pm3 an3 cd3 ct3), sl3⟩) (c3 : PySem.W.codeIn K cd3 (Str.ofString "greatest_borders") = true) (k3 : PySem.W.keepIn K (.ref f3) = true)
    (a4 : PySem.W.nsIn K mainGlobals (Str.ofString "laid_at") = some (some (.ref f4))) (l4 : K.lookup f4 = some ⟨oc4, od4, .func (PySem.W.fnOf (Str.ofString "laid_at") (Str.ofString "laid_at") (defArgs s_laid_at) (defBody s_laid_at) (defScope s_laid_at) .none kV4 dc4 pm4 an4 cd4 ct4), sl4⟩) (c4 : PySem.W.codeIn K cd4 (Str.ofString "laid_at") = true) (k4 : PySem.W.keepIn K (.ref f4) = true)
    (a5 : PySem.W.nsIn K mainGlobals (Str.ofString "first_bare") = some (some (.ref f5))) (l5 : K.lookup f5 = some ⟨oc5, od5, .func (PySem.W.fnOf (Str.ofString "first_bare") (Str.ofString "first_bare") (defArgs s_first_bare) (defBody s_first_bare) (defScope s_first_bare) .none kV5 dc5 pm5 an5 cd5 ct5), sl5⟩) (c5 : PySem.W.codeIn K cd5 (Str.ofString "first_bare") = true) (k5 : PySem.W.keepIn K (.ref f5) = true)
    (a6 : PySem.W.nsIn K mainGlobals (Str.ofString "all_shifts") = some (some (.ref f6))) (l6 : K.lookup f6 = some ⟨oc6, od6, .func (PySem.W.fnOf (Str.ofString "all_shifts") (Str.ofString "all_shifts") (defArgs s_all_shifts) (defBody s_all_shifts) (defScope s_all_shifts) .none kV6 dc6 pm6 an6 cd6 ct6), sl6⟩) (c6 : PySem.W.codeIn K cd6 (Str.ofString "all_shifts") = true) (k6 : PySem.W.keepIn K (.ref f6) = true)
    (a7 : PySem.W.nsIn K mainGlobals (Str.ofString "misses") = some (some (.ref f7))) (l7 : K.lookup f7 = some ⟨oc7, od7, .func (PySem.W.fnOf (Str.ofString "misses") (Str.ofString "misses") (defArgs s_misses) (defBody s_misses) (defScope s_misses) .none kV7 dc7 pm7 an7 cd7 ct7), sl7⟩) (c7 : PySem.W.codeIn K cd7 (Str.ofString "misses") = true) (k7 : PySem.W.keepIn K (.ref f7) = true)
    (a8 : PySem.W.nsIn K mainGlobals (Str.ofString "need_length") = some (some (.ref f8))) (l8 : K.lookup f8 = some ⟨oc8, od8, .func (PySem.W.fnOf (Str.ofString "need_length") (Str.ofString "need_length") (defArgs s_need_length) (defBody s_need_length) (defScope s_need_length) .none kV8 dc8 pm8 an8 cd8 ct8), sl8⟩) (c8 : PySem.W.codeIn K cd8 (Str.ofString "need_length") = true) (k8 : PySem.W.keepIn K (.ref f8) = true)
    (a9 : PySem.W.nsIn K mainGlobals (Str.ofString "hung_ahead") = some (some (.ref f9))) (l9 : K.lookup f9 = some ⟨oc9, od9, .func (PySem.W.fnOf (Str.ofString "hung_ahead") (Str.ofString "hung_ahead") (defArgs s_hung_ahead) (defBody s_hung_ahead) (defScope s_hung_ahead) .none kV9 dc9 pm9 an9 cd9 ct9), sl9⟩) (c9 : PySem.W.codeIn K cd9 (Str.ofString "hung_ahead") = true) (k9 : PySem.W.keepIn K (.ref f9) = true)
    (a10 : PySem.W.nsIn K mainGlobals (Str.ofString "hung_behind") = some (some (.ref f10))) (l10 : K.lookup f10 = some ⟨oc10, od10, .func (PySem.W.fnOf (Str.ofString "hung_behind") (Str.ofString "hung_behind") (defArgs s_hung_behind) (defBody s_hung_behind) (defScope s_hung_behind) .none kV10 dc10 pm10 an10 cd10 ct10), sl10⟩) (c10 : PySem.W.codeIn K cd10 (Str.ofString "hung_behind") = true) (k10 : PySem.W.keepIn K (.ref f10) = true)
    (a11 : PySem.W.nsIn K mainGlobals (Str.ofString "are_letters") = some (some (.ref f11))) (l11 : K.lookup f11 = some ⟨oc11, od11, .func (PySem.W.fnOf (Str.ofString "are_letters") (Str.ofString "are_letters") (defArgs s_are_letters) (defBody s_are_letters) (defScope s_are_letters) .none kV11 dc11 pm11 an11 cd11 ct11), sl11⟩) (c11 : PySem.W.codeIn K cd11 (Str.ofString "are_letters") = true) (k11 : PySem.W.keepIn K (.ref f11) = true)
    (a12 : PySem.W.nsIn K mainGlobals (Str.ofString "is_length") = some (some (.ref f12))) (l12 : K.lookup f12 = some ⟨oc12, od12, .func (PySem.W.fnOf (Str.ofString "is_length") (Str.ofString "is_length") (defArgs s_is_length) (defBody s_is_length) (defScope s_is_length) .none kV12 dc12 pm12 an12 cd12 ct12), sl12⟩) (c12 : PySem.W.codeIn K cd12 (Str.ofString "is_length") = true) (k12 : PySem.W.keepIn K (.ref f12) = true)
    (a13 : PySem.W.nsIn K mainGlobals (Str.ofString "numbers_text") = some (some (.ref f13))) (l13 : K.lookup f13 = some ⟨oc13, od13, .func (PySem.W.fnOf (Str.ofString "numbers_text") (Str.ofString "numbers_text") (defArgs s_numbers_text) (defBody s_numbers_text) (defScope s_numbers_text) .none kV13 dc13 pm13 an13 cd13 ct13), sl13⟩) (c13 : PySem.W.codeIn K cd13 (Str.ofString "numbers_text") = true) (k13 : PySem.W.keepIn K (.ref f13) = true)
    (a14 : PySem.W.findIn K (.ref cD) (Str.ofString "need_told") = some (some (.ref f14))) (i14 : PySem.W.isFn K (.ref f14) = true) (l14 : K.lookup f14 = some ⟨oc14, od14, .func (PySem.W.fnOf (Str.ofString "need_told") (Str.ofString "Desk.need_told") (defArgs s_Desk_need_told) (defBody s_Desk_need_told) (defScope s_Desk_need_told) .none kV14 dc14 pm14 an14 cd14 ct14), sl14⟩) (c14 : PySem.W.codeIn K cd14 (Str.ofString "Desk.need_told") = true) (k14 : PySem.W.keepIn K (.ref f14) = true)
    (a15 : PySem.W.nsIn K mainGlobals (Str.ofString "_law_cell_at") = some (some (.ref f15))) (l15 : K.lookup f15 = some ⟨oc15, od15, .func (PySem.W.fnOf (Str.ofString "_law_cell_at") (Str.ofString "_law_cell_at") (defArgs s__law_cell_at) (defBody s__law_cell_at) (defScope s__law_cell_at) .none kV15 dc15 pm15 an15 cd15 ct15), sl15⟩) (c15 : PySem.W.codeIn K cd15 (Str.ofString "_law_cell_at") = true) (k15 : PySem.W.keepIn K (.ref f15) = true)
    (a16 : PySem.W.nsIn K mainGlobals (Str.ofString "_law_stir") = some (some (.ref f16))) (l16 : K.lookup f16 = some ⟨oc16, od16, .func (PySem.W.fnOf (Str.ofString "_law_stir") (Str.ofString "_law_stir") (defArgs s__law_stir) (defBody s__law_stir) (defScope s__law_stir) .none kV16 dc16 pm16 an16 cd16 ct16), sl16⟩) (c16 : PySem.W.codeIn K cd16 (Str.ofString "_law_stir") = true) (k16 : PySem.W.keepIn K (.ref f16) = true)
    (a17 : PySem.W.nsIn K mainGlobals (Str.ofString "_law_class") = some (some (.ref f17))) (l17 : K.lookup f17 = some ⟨oc17, od17, .func (PySem.W.fnOf (Str.ofString "_law_class") (Str.ofString "_law_class") (defArgs s__law_class) (defBody s__law_class) (defScope s__law_class) .none kV17 dc17 pm17 an17 cd17 ct17), sl17⟩) (c17 : PySem.W.codeIn K cd17 (Str.ofString "_law_class") = true) (k17 : PySem.W.keepIn K (.ref f17) = true)
    (a18 : PySem.W.nsIn K mainGlobals (Str.ofString "_law_menu") = some (some (.ref f18))) (l18 : K.lookup f18 = some ⟨oc18, od18, .func (PySem.W.fnOf (Str.ofString "_law_menu") (Str.ofString "_law_menu") (defArgs s__law_menu) (defBody s__law_menu) (defScope s__law_menu) .none kV18 dc18 pm18 an18 cd18 ct18), sl18⟩) (c18 : PySem.W.codeIn K cd18 (Str.ofString "_law_menu") = true) (k18 : PySem.W.keepIn K (.ref f18) = true)
    (a19 : PySem.W.nsIn K mainGlobals (Str.ofString "_law_signs") = some (some (.ref f19))) (l19 : K.lookup f19 = some ⟨oc19, od19, .func (PySem.W.fnOf (Str.ofString "_law_signs") (Str.ofString "_law_signs") (defArgs s__law_signs) (defBody s__law_signs) (defScope s__law_signs) .none kV19 dc19 pm19 an19 cd19 ct19), sl19⟩) (c19 : PySem.W.codeIn K cd19 (Str.ofString "_law_signs") = true) (k19 : PySem.W.keepIn K (.ref f19) = true)
    (a20 : PySem.W.nsIn K mainGlobals (Str.ofString "borders") = some (some (.ref f20))) (l20 : K.lookup f20 = some ⟨oc20, od20, .func (PySem.W.fnOf (Str.ofString "borders") (Str.ofString "borders") (defArgs s_borders) (defBody s_borders) (defScope s_borders) .none kV20 dc20 pm20 an20 cd20 ct20), sl20⟩) (c20 : PySem.W.codeIn K cd20 (Str.ofString "borders") = true) (k20 : PySem.W.keepIn K (.ref f20) = true)
    (a21 : PySem.W.nsIn K mainGlobals (Str.ofString "lies_at") = some (some (.ref f21))) (l21 : K.lookup f21 = some ⟨oc21, od21, .func (PySem.W.fnOf (Str.ofString "lies_at") (Str.ofString "lies_at") (defArgs s_lies_at) (defBody s_lies_at) (defScope s_lies_at) .none kV21 dc21 pm21 an21 cd21 ct21), sl21⟩) (c21 : PySem.W.codeIn K cd21 (Str.ofString "lies_at") = true) (k21 : PySem.W.keepIn K (.ref f21) = true)
    (a22 : PySem.W.nsIn K mainGlobals (Str.ofString "need_both") = some (some (.ref f22))) (l22 : K.lookup f22 = some ⟨oc22, od22, .func (PySem.W.fnOf (Str.ofString "need_both") (Str.ofString "need_both") (defArgs s_need_both) (defBody s_need_both) (defScope s_need_both) .none kV22 dc22 pm22 an22 cd22 ct22), sl22⟩) (c22 : PySem.W.codeIn K cd22 (Str.ofString "need_both") = true) (k22 : PySem.W.keepIn K (.ref f22) = true)
    (a23 : PySem.W.nsIn K mainGlobals (Str.ofString "need_room") = some (some (.ref f23))) (l23 : K.lookup f23 = some ⟨oc23, od23, .func (PySem.W.fnOf (Str.ofString "need_room") (Str.ofString "need_room") (defArgs s_need_room) (defBody s_need_room) (defScope s_need_room) .none kV23 dc23 pm23 an23 cd23 ct23), sl23⟩) (c23 : PySem.W.codeIn K cd23 (Str.ofString "need_room") = true) (k23 : PySem.W.keepIn K (.ref f23) = true)
    (a24 : PySem.W.nsIn K mainGlobals (Str.ofString "best_from") = some (some (.ref f24))) (l24 : K.lookup f24 = some ⟨oc24, od24, .func (PySem.W.fnOf (Str.ofString "best_from") (Str.ofString "best_from") (defArgs s_best_from) (defBody s_best_from) (defScope s_best_from) .none kV24 dc24 pm24 an24 cd24 ct24), sl24⟩) (c24 : PySem.W.codeIn K cd24 (Str.ofString "best_from") = true) (k24 : PySem.W.keepIn K (.ref f24) = true)
    (a25 : PySem.W.nsIn K mainGlobals (Str.ofString "need_whole_word") = some (some (.ref f25))) (l25 : K.lookup f25 = some ⟨oc25, od25, .func (PySem.W.fnOf (Str.ofString "need_whole_word") (Str.ofString "need_whole_word") (defArgs s_need_whole_word) (defBody s_need_whole_word) (defScope s_need_whole_word) .none kV25 dc25 pm25 an25 cd25 ct25), sl25⟩) (c25 : PySem.W.codeIn K cd25 (Str.ofString "need_whole_word") = true) (k25 : PySem.W.keepIn K (.ref f25) = true)
    (a26 : PySem.W.nsIn K mainGlobals (Str.ofString "next_shifts") = some (some (.ref f26))) (l26 : K.lookup f26 = some ⟨oc26, od26, .func (PySem.W.fnOf (Str.ofString "next_shifts") (Str.ofString "next_shifts") (defArgs s_next_shifts) (defBody s_next_shifts) (defScope s_next_shifts) .none kV26 dc26 pm26 an26 cd26 ct26), sl26⟩) (c26 : PySem.W.codeIn K cd26 (Str.ofString "next_shifts") = true) (k26 : PySem.W.keepIn K (.ref f26) = true)
    (a27 : PySem.W.nsIn K mainGlobals (Str.ofString "covers_amid") = some (some (.ref f27))) (l27 : K.lookup f27 = some ⟨oc27, od27, .func (PySem.W.fnOf (Str.ofString "covers_amid") (Str.ofString "covers_amid") (defArgs s_covers_amid) (defBody s_covers_amid) (defScope s_covers_amid) .none kV27 dc27 pm27 an27 cd27 ct27), sl27⟩) (c27 : PySem.W.codeIn K cd27 (Str.ofString "covers_amid") = true) (k27 : PySem.W.keepIn K (.ref f27) = true)
    (a28 : PySem.W.nsIn K mainGlobals (Str.ofString "is_within") = some (some (.ref f28))) (l28 : K.lookup f28 = some ⟨oc28, od28, .func (PySem.W.fnOf (Str.ofString "is_within") (Str.ofString "is_within") (defArgs s_is_within) (defBody s_is_within) (defScope s_is_within) .none kV28 dc28 pm28 an28 cd28 ct28), sl28⟩) (c28 : PySem.W.codeIn K cd28 (Str.ofString "is_within") = true) (k28 : PySem.W.keepIn K (.ref f28) = true)
    (a29 : PySem.W.nsIn K mainGlobals (Str.ofString "_law_digit") = some (some (.ref f29))) (l29 : K.lookup f29 = some ⟨oc29, od29, .func (PySem.W.fnOf (Str.ofString "_law_digit") (Str.ofString "_law_digit") (defArgs s__law_digit) (defBody s__law_digit) (defScope s__law_digit) .none kV29 dc29 pm29 an29 cd29 ct29), sl29⟩) (c29 : PySem.W.codeIn K cd29 (Str.ofString "_law_digit") = true) (k29 : PySem.W.keepIn K (.ref f29) = true)
    (a30 : PySem.W.nsIn K mainGlobals (Str.ofString "covered") = some (some (.ref f30))) (l30 : K.lookup f30 = some ⟨oc30, od30, .func (PySem.W.fnOf (Str.ofString "covered") (Str.ofString "covered") (defArgs s_covered) (defBody s_covered) (defScope s_covered) .none kV30 dc30 pm30 an30 cd30 ct30), sl30⟩) (c30 : PySem.W.codeIn K cd30 (Str.ofString "covered") = true) (k30 : PySem.W.keepIn K (.ref f30) = true)
    (a31 : PySem.W.nsIn K mainGlobals (Str.ofString "onward") = some (some (.ref f31))) (l31 : K.lookup f31 = some ⟨oc31, od31, .func (PySem.W.fnOf (Str.ofString "onward") (Str.ofString "onward") (defArgs s_onward) (defBody s_onward) (defScope s_onward) .none kV31 dc31 pm31 an31 cd31 ct31), sl31⟩) (c31 : PySem.W.codeIn K cd31 (Str.ofString "onward") = true) (k31 : PySem.W.keepIn K (.ref f31) = true)
    (a32 : PySem.W.nsIn K mainGlobals (Str.ofString "fewest_by") = some (some (.ref f32))) (l32 : K.lookup f32 = some ⟨oc32, od32, .func (PySem.W.fnOf (Str.ofString "fewest_by") (Str.ofString "fewest_by") (defArgs s_fewest_by) (defBody s_fewest_by) (defScope s_fewest_by) .none kV32 dc32 pm32 an32 cd32 ct32), sl32⟩) (c32 : PySem.W.codeIn K cd32 (Str.ofString "fewest_by") = true) (k32 : PySem.W.keepIn K (.ref f32) = true)
    (a33 : PySem.W.nsIn K mainGlobals (Str.ofString "counts_to") = some (some (.ref f33))) (l33 : K.lookup f33 = some ⟨oc33, od33, .func (PySem.W.fnOf (Str.ofString "counts_to") (Str.ofString "counts_to") (defArgs s_counts_to) (defBody s_counts_to) (defScope s_counts_to) .none kV33 dc33 pm33 an33 cd33 ct33), sl33⟩) (c33 : PySem.W.codeIn K cd33 (Str.ofString "counts_to") = true) (k33 : PySem.W.keepIn K (.ref f33) = true)
    (a34 : PySem.W.nsIn K mainGlobals (Str.ofString "rest_behind") = some (some (.ref f34))) (l34 : K.lookup f34 = some ⟨oc34, od34, .func (PySem.W.fnOf (Str.ofString "rest_behind") (Str.ofString "rest_behind") (defArgs s_rest_behind) (defBody s_rest_behind) (defScope s_rest_behind) .none kV34 dc34 pm34 an34 cd34 ct34), sl34⟩) (c34 : PySem.W.codeIn K cd34 (Str.ofString "rest_behind") = true) (k34 : PySem.W.keepIn K (.ref f34) = true)
    (a35 : PySem.W.nsIn K mainGlobals (Str.ofString "rest_ahead") = some (some (.ref f35))) (l35 : K.lookup f35 = some ⟨oc35, od35, .func (PySem.W.fnOf (Str.ofString "rest_ahead") (Str.ofString "rest_ahead") (defArgs s_rest_ahead) (defBody s_rest_ahead) (defScope s_rest_ahead) .none kV35 dc35 pm35 an35 cd35 ct35), sl35⟩) (c35 : PySem.W.codeIn K cd35 (Str.ofString "rest_ahead") = true) (k35 : PySem.W.keepIn K (.ref f35) = true)
    (a36 : PySem.W.nsIn K mainGlobals (Str.ofString "covers_both") = some (some (.ref f36))) (l36 : K.lookup f36 = some ⟨oc36, od36, .func (PySem.W.fnOf (Str.ofString "covers_both") (Str.ofString "covers_both") (defArgs s_covers_both) (defBody s_covers_both) (defScope s_covers_both) .none kV36 dc36 pm36 an36 cd36 ct36), sl36⟩) (c36 : PySem.W.codeIn K cd36 (Str.ofString "covers_both") = true) (k36 : PySem.W.keepIn K (.ref f36) = true)
    (a37 : PySem.W.nsIn K mainGlobals (Str.ofString "_law_word") = some (some (.ref f37))) (l37 : K.lookup f37 = some ⟨oc37, od37, .func (PySem.W.fnOf (Str.ofString "_law_word") (Str.ofString "_law_word") (defArgs s__law_word) (defBody s__law_word) (defScope s__law_word) .none kV37 dc37 pm37 an37 cd37 ct37), sl37⟩) (c37 : PySem.W.codeIn K cd37 (Str.ofString "_law_word") = true) (k37 : PySem.W.keepIn K (.ref f37) = true)
    (a38 : PySem.W.nsIn K mainGlobals (Str.ofString "all_covers") = some (some (.ref f38))) (l38 : K.lookup f38 = some ⟨oc38, od38, .func (PySem.W.fnOf (Str.ofString "all_covers") (Str.ofString "all_covers") (defArgs s_all_covers) (defBody s_all_covers) (defScope s_all_covers) .none kV38 dc38 pm38 an38 cd38 ct38), sl38⟩) (c38 : PySem.W.codeIn K cd38 (Str.ofString "all_covers") = true) (k38 : PySem.W.keepIn K (.ref f38) = true)
    (a39 : PySem.W.nsIn K mainGlobals (Str.ofString "fewest_layings") = some (some (.ref f39))) (l39 : K.lookup f39 = some ⟨oc39, od39, .func (PySem.W.fnOf (Str.ofString "fewest_layings") (Str.ofString "fewest_layings") (defArgs s_fewest_layings) (defBody s_fewest_layings) (defScope s_fewest_layings) .none kV39 dc39 pm39 an39 cd39 ct39), sl39⟩) (c39 : PySem.W.codeIn K cd39 (Str.ofString "fewest_layings") = true) (k39 : PySem.W.keepIn K (.ref f39) = true)
    (a40 : PySem.W.nsIn K mainGlobals (Str.ofString "fewest_wrong") = some (some (.ref f40))) (l40 : K.lookup f40 = some ⟨oc40, od40, .func (PySem.W.fnOf (Str.ofString "fewest_wrong") (Str.ofString "fewest_wrong") (defArgs s_fewest_wrong) (defBody s_fewest_wrong) (defScope s_fewest_wrong) .none kV40 dc40 pm40 an40 cd40 ct40), sl40⟩) (c40 : PySem.W.codeIn K cd40 (Str.ofString "fewest_wrong") = true) (k40 : PySem.W.keepIn K (.ref f40) = true)
    (a41 : PySem.W.nsIn K mainGlobals (Str.ofString "count_by") = some (some (.ref f41))) (l41 : K.lookup f41 = some ⟨oc41, od41, .func (PySem.W.fnOf (Str.ofString "count_by") (Str.ofString "count_by") (defArgs s_count_by) (defBody s_count_by) (defScope s_count_by) .none kV41 dc41 pm41 an41 cd41 ct41), sl41⟩) (c41 : PySem.W.codeIn K cd41 (Str.ofString "count_by") = true) (k41 : PySem.W.keepIn K (.ref f41) = true)
    (a42 : PySem.W.nsIn K mainGlobals (Str.ofString "rest_both") = some (some (.ref f42))) (l42 : K.lookup f42 = some ⟨oc42, od42, .func (PySem.W.fnOf (Str.ofString "rest_both") (Str.ofString "rest_both") (defArgs s_rest_both) (defBody s_rest_both) (defScope s_rest_both) .none kV42 dc42 pm42 an42 cd42 ct42), sl42⟩) (c42 : PySem.W.codeIn K cd42 (Str.ofString "rest_both") = true) (k42 : PySem.W.keepIn K (.ref f42) = true)
    (a43 : PySem.W.nsIn K mainGlobals (Str.ofString "_law_longer") = some (some (.ref f43))) (l43 : K.lookup f43 = some ⟨oc43, od43, .func (PySem.W.fnOf (Str.ofString "_law_longer") (Str.ofString "_law_longer") (defArgs s__law_longer) (defBody s__law_longer) (defScope s__law_longer) .none kV43 dc43 pm43 an43 cd43 ct43), sl43⟩) (c43 : PySem.W.codeIn K cd43 (Str.ofString "_law_longer") = true) (k43 : PySem.W.keepIn K (.ref f43) = true)
    (a44 : PySem.W.nsIn K mainGlobals (Str.ofString "shortest_cover") = some (some (.ref f44))) (l44 : K.lookup f44 = some ⟨oc44, od44, .func (PySem.W.fnOf (Str.ofString "shortest_cover") (Str.ofString "shortest_cover") (defArgs s_shortest_cover) (defBody s_shortest_cover) (defScope s_shortest_cover) .none kV44 dc44 pm44 an44 cd44 ct44), sl44⟩) (c44 : PySem.W.codeIn K cd44 (Str.ofString "shortest_cover") = true) (k44 : PySem.W.keepIn K (.ref f44) = true)
    (a45 : PySem.W.nsIn K mainGlobals (Str.ofString "count_covered") = some (some (.ref f45))) (l45 : K.lookup f45 = some ⟨oc45, od45, .func (PySem.W.fnOf (Str.ofString "count_covered") (Str.ofString "count_covered") (defArgs s_count_covered) (defBody s_count_covered) (defScope s_count_covered) .none kV45 dc45 pm45 an45 cd45 ct45), sl45⟩) (c45 : PySem.W.codeIn K cd45 (Str.ofString "count_covered") = true) (k45 : PySem.W.keepIn K (.ref f45) = true)
    (a46 : PySem.W.findIn K (.ref cD) (Str.ofString "yes_or_no") = some (some (.ref f46))) (i46 : PySem.W.isFn K (.ref f46) = true) (l46 : K.lookup f46 = some ⟨oc46, od46, .func (PySem.W.fnOf (Str.ofString "yes_or_no") (Str.ofString "Desk.yes_or_no") (defArgs s_Desk_yes_or_no) (defBody s_Desk_yes_or_no) (defScope s_Desk_yes_or_no) .none kV46 dc46 pm46 an46 cd46 ct46), sl46⟩) (c46 : PySem.W.codeIn K cd46 (Str.ofString "Desk.yes_or_no") = true) (k46 : PySem.W.keepIn K (.ref f46) = true)
    (a47 : PySem.W.findIn K (.ref cD) (Str.ofString "of_both") = some (some (.ref f47))) (i47 : PySem.W.isFn K (.ref f47) = true) (l47 : K.lookup f47 = some ⟨oc47, od47, .func (PySem.W.fnOf (Str.ofString "of_both") (Str.ofString "Desk.of_both") (defArgs s_Desk_of_both) (defBody s_Desk_of_both) (defScope s_Desk_of_both) .none kV47 dc47 pm47 an47 cd47 ct47), sl47⟩) (c47 : PySem.W.codeIn K cd47 (Str.ofString "Desk.of_both") = true) (k47 : PySem.W.keepIn K (.ref f47) = true)
    (a48 : PySem.W.findIn K (.ref cD) (Str.ofString "of_text") = some (some (.ref f48))) (i48 : PySem.W.isFn K (.ref f48) = true) (l48 : K.lookup f48 = some ⟨oc48, od48, .func (PySem.W.fnOf (Str.ofString "of_text") (Str.ofString "Desk.of_text") (defArgs s_Desk_of_text) (defBody s_Desk_of_text) (defScope s_Desk_of_text) .none kV48 dc48 pm48 an48 cd48 ct48), sl48⟩) (c48 : PySem.W.codeIn K cd48 (Str.ofString "Desk.of_text") = true) (k48 : PySem.W.keepIn K (.ref f48) = true)
    (a49 : PySem.W.findIn K (.ref cD) (Str.ofString "say") = some (some (.ref f49))) (i49 : PySem.W.isFn K (.ref f49) = true) (l49 : K.lookup f49 = some ⟨oc49, od49, .func (PySem.W.fnOf (Str.ofString "say") (Str.ofString "Desk.say") (defArgs s_Desk_say) (defBody s_Desk_say) (defScope s_Desk_say) .none kV49 dc49 pm49 an49 cd49 ct49), sl49⟩) (c49 : PySem.W.codeIn K cd49 (Str.ofString "Desk.say") = true) (k49 : PySem.W.keepIn K (.ref f49) = true)
    (a50 : PySem.W.nsIn K mainGlobals (Str.ofString "_law_said") = some (some (.ref f50))) (l50 : K.lookup f50 = some ⟨oc50, od50, .func (PySem.W.fnOf (Str.ofString "_law_said") (Str.ofString "_law_said") (defArgs s__law_said) (defBody s__law_said) (defScope s__law_said) .none kV50 dc50 pm50 an50 cd50 ct50), sl50⟩) (c50 : PySem.W.codeIn K cd50 (Str.ofString "_law_said") = true) (k50 : PySem.W.keepIn K (.ref f50) = true)
    (a51 : PySem.W.nsIn K mainGlobals (Str.ofString "law") = some (some (.ref f51))) (l51 : K.lookup f51 = some ⟨oc51, od51, .func (PySem.W.fnOf (Str.ofString "law") (Str.ofString "law") (defArgs s_law) (defBody s_law) (defScope s_law) .none kV51 dc51 pm51 an51 cd51 ct51), sl51⟩) (c51 : PySem.W.codeIn K cd51 (Str.ofString "law") = true) (k51 : PySem.W.keepIn K (.ref f51) = true)
    (e0 : PySem.W.nsIn K mainGlobals (Str.ofString "FIGURES") = some (some (.str (Str.ofString "0123456789") t0)))
    (e1 : PySem.W.nsIn K mainGlobals (Str.ofString "LETTERS_borders") = some (some (.str (Str.ofString "abcdefghijklmnopqrstuvwxyz") t1)))
    (e2 : PySem.W.nsIn K mainGlobals (Str.ofString "LETTERS_desk") = some (some (.str (Str.ofString "abcdefghijklmnopqrstuvwxyz") t2)))
    (e3 : PySem.W.nsIn K mainGlobals (Str.ofString "MOST_SIGNS") = some (some (.int 200 t3)))
    (z0 : PySem.W.nsIn K mainGlobals (Str.ofString "ValueError") = some none)
    (z1 : PySem.W.nsIn K mainGlobals (Str.ofString "enumerate") = some none)
    (z2 : PySem.W.nsIn K mainGlobals (Str.ofString "int") = some none)
    (z3 : PySem.W.nsIn K mainGlobals (Str.ofString "isinstance") = some none)
    (z4 : PySem.W.nsIn K mainGlobals (Str.ofString "len") = some none)
    (z5 : PySem.W.nsIn K mainGlobals (Str.ofString "list") = some none)
    (z6 : PySem.W.nsIn K mainGlobals (Str.ofString "max") = some none)
    (z7 : PySem.W.nsIn K mainGlobals (Str.ofString "min") = some none)
    (z8 : PySem.W.nsIn K mainGlobals (Str.ofString "range") = some none)
    (z9 : PySem.W.nsIn K mainGlobals (Str.ofString "sorted") = some none)
    (z10 : PySem.W.nsIn K mainGlobals (Str.ofString "str") = some none)
    (z11 : PySem.W.nsIn K mainGlobals (Str.ofString "sum") = some none)
    (xn0 : PySem.W.nsIn K mainGlobals (Str.ofString "CoverError") = some (some (.ref cc0)))
    (xx0 : PySem.W.excIn K cc0 [.type "ValueError", .type "Exception", .type "BaseException", .type "object"] "ValueError.__new__" = true)
    (xk0 : PySem.W.keepIn K (.ref cc0) = true)
    (xb0 : PySem.W.subIn K (.ref cc0) (.type "BaseException") = some true)
    (xt0 : PySem.W.typeIn K (.ref cc0) = some (.type "type"))
    (xd0 : PySem.W.hasDictIn K cc0 = true)
    (xs0 : PySem.W.subIn K (.ref cc0) (.ref cc0) = some true)
    (xn1 : PySem.W.nsIn K mainGlobals (Str.ofString "NoWord") = some (some (.ref cc1)))
    (xx1 : PySem.W.excIn K cc1 [.type "ValueError", .type "Exception", .type "BaseException", .type "object"] "ValueError.__new__" = true)
    (xk1 : PySem.W.keepIn K (.ref cc1) = true)
    (xb1 : PySem.W.subIn K (.ref cc1) (.type "BaseException") = some true)
    (xt1 : PySem.W.typeIn K (.ref cc1) = some (.type "type"))
    (xd1 : PySem.W.hasDictIn K cc1 = true)
    (xs1 : PySem.W.subIn K (.ref cc1) (.ref cc1) = some true)
    (xn2 : PySem.W.nsIn K mainGlobals (Str.ofString "NoSign") = some (some (.ref cc2)))
    (xx2 : PySem.W.excIn K cc2 [.type "ValueError", .type "Exception", .type "BaseException", .type "object"] "ValueError.__new__" = true)
    (xk2 : PySem.W.keepIn K (.ref cc2) = true)
    (xb2 : PySem.W.subIn K (.ref cc2) (.type "BaseException") = some true)
    (xt2 : PySem.W.typeIn K (.ref cc2) = some (.type "type"))
    (xd2 : PySem.W.hasDictIn K cc2 = true)
    (xs2 : PySem.W.subIn K (.ref cc2) (.ref cc2) = some true)
    (xn3 : PySem.W.nsIn K mainGlobals (Str.ofString "NoText") = some (some (.ref cc3)))
    (xx3 : PySem.W.excIn K cc3 [.type "ValueError", .type "Exception", .type "BaseException", .type "object"] "ValueError.__new__" = true)
    (xk3 : PySem.W.keepIn K (.ref cc3) = true)
    (xb3 : PySem.W.subIn K (.ref cc3) (.type "BaseException") = some true)
    (xt3 : PySem.W.typeIn K (.ref cc3) = some (.type "type"))
    (xd3 : PySem.W.hasDictIn K cc3 = true)
    (xs3 : PySem.W.subIn K (.ref cc3) (.ref cc3) = some true)
    (xn4 : PySem.W.nsIn K mainGlobals (Str.ofString "NoCover") = some (some (.ref cc4)))
    (xx4 : PySem.W.excIn K cc4 [.type "ValueError", .type "Exception", .type "BaseException", .type "object"] "ValueError.__new__" = true)
    (xk4 : PySem.W.keepIn K (.ref cc4) = true)
    (xb4 : PySem.W.subIn K (.ref cc4) (.type "BaseException") = some true)
    (xt4 : PySem.W.typeIn K (.ref cc4) = some (.type "type"))
    (xd4 : PySem.W.hasDictIn K cc4 = true)
    (xs4 : PySem.W.subIn K (.ref cc4) (.ref cc4) = some true)
    (xn5 : PySem.W.nsIn K mainGlobals (Str.ofString "NoNumber") = some (some (.ref cc5)))
    (xx5 : PySem.W.excIn K cc5 [.type "ValueError", .type "Exception", .type "BaseException", .type "object"] "ValueError.__new__" = true)
    (xk5 : PySem.W.keepIn K (.ref cc5) = true)
    (xb5 : PySem.W.subIn K (.ref cc5) (.type "BaseException") = some true)
    (xt5 : PySem.W.typeIn K (.ref cc5) = some (.type "type"))
    (xd5 : PySem.W.hasDictIn K cc5 = true)
    (xs5 : PySem.W.subIn K (.ref cc5) (.ref cc5) = some true)
    (xn6 : PySem.W.nsIn K mainGlobals (Str.ofString "NoChain") = some (some (.ref cc6)))
    (xx6 : PySem.W.excIn K cc6 [.type "ValueError", .type "Exception", .type "BaseException", .type "object"] "ValueError.__new__" = true)
    (xk6 : PySem.W.keepIn K (.ref cc6) = true)
    (xb6 : PySem.W.subIn K (.ref cc6) (.type "BaseException") = some true)
    (xt6 : PySem.W.typeIn K (.ref cc6) = some (.type "type"))
    (xd6 : PySem.W.hasDictIn K cc6 = true)
    (xs6 : PySem.W.subIn K (.ref cc6) (.ref cc6) = some true)
    (xn7 : PySem.W.nsIn K mainGlobals (Str.ofString "TooMany") = some (some (.ref cc7)))
    (xx7 : PySem.W.excIn K cc7 [.type "ValueError", .type "Exception", .type "BaseException", .type "object"] "ValueError.__new__" = true)
    (xk7 : PySem.W.keepIn K (.ref cc7) = true)
    (xb7 : PySem.W.subIn K (.ref cc7) (.type "BaseException") = some true)
    (xt7 : PySem.W.typeIn K (.ref cc7) = some (.type "type"))
    (xd7 : PySem.W.hasDictIn K cc7 = true)
    (xs7 : PySem.W.subIn K (.ref cc7) (.ref cc7) = some true)
    (xn8 : PySem.W.nsIn K mainGlobals (Str.ofString "NoForm") = some (some (.ref cc8)))
    (xx8 : PySem.W.excIn K cc8 [.type "ValueError", .type "Exception", .type "BaseException", .type "object"] "ValueError.__new__" = true)
    (xk8 : PySem.W.keepIn K (.ref cc8) = true)
    (xb8 : PySem.W.subIn K (.ref cc8) (.type "BaseException") = some true)
    (xt8 : PySem.W.typeIn K (.ref cc8) = some (.type "type"))
    (xd8 : PySem.W.hasDictIn K cc8 = true)
    (xs8 : PySem.W.subIn K (.ref cc8) (.ref cc8) = some true)
    (xn9 : PySem.W.nsIn K mainGlobals (Str.ofString "NoneYet") = some (some (.ref cc9)))
    (xx9 : PySem.W.excIn K cc9 [.type "ValueError", .type "Exception", .type "BaseException", .type "object"] "ValueError.__new__" = true)
    (xk9 : PySem.W.keepIn K (.ref cc9) = true)
    (xb9 : PySem.W.subIn K (.ref cc9) (.type "BaseException") = some true)
    (xt9 : PySem.W.typeIn K (.ref cc9) = some (.type "type"))
    (xd9 : PySem.W.hasDictIn K cc9 = true)
    (xs9 : PySem.W.subIn K (.ref cc9) (.ref cc9) = some true)
    (xg : PySem.W.specialIn K (.builtin "object.__class__") "__get__" = some (some (.builtin "getset_descriptor.__get__")))
    (xtk : PySem.W.takesIn K (.builtin "object.__class__") = some true)
    (xga1 : PySem.W.findIn K (.ref cc1) "__getattribute__" = some (some (.builtin "BaseException.__getattribute__")))
    (xgt1 : PySem.W.findIn K (.ref cc1) "__getattr__" = some none)
    (xcl1 : PySem.W.findIn K (.ref cc1) "__class__" = some (some (.builtin "object.__class__")))
    (xmo1 : PySem.W.mroIn K cc1 (.type "object") = some true)
    (xve1 : PySem.W.subIn K (.ref cc1) (.type "ValueError") = some true)
    (xp_NoWord_CoverError : PySem.W.subIn K (.ref cc1) (.ref cc0) = some true)
    (xp_NoWord_NoWord : PySem.W.subIn K (.ref cc1) (.ref cc1) = some true)
    (xp_NoWord_NoSign : PySem.W.subIn K (.ref cc1) (.ref cc2) = some false)
    (xp_NoWord_NoText : PySem.W.subIn K (.ref cc1) (.ref cc3) = some false)
    (xp_NoWord_NoCover : PySem.W.subIn K (.ref cc1) (.ref cc4) = some false)
    (xp_NoWord_NoNumber : PySem.W.subIn K (.ref cc1) (.ref cc5) = some false)
    (xp_NoWord_NoChain : PySem.W.subIn K (.ref cc1) (.ref cc6) = some false)
    (xp_NoWord_TooMany : PySem.W.subIn K (.ref cc1) (.ref cc7) = some false)
    (xp_NoWord_NoForm : PySem.W.subIn K (.ref cc1) (.ref cc8) = some false)
    (xp_NoWord_NoneYet : PySem.W.subIn K (.ref cc1) (.ref cc9) = some false)
    (xga2 : PySem.W.findIn K (.ref cc2) "__getattribute__" = some (some (.builtin "BaseException.__getattribute__")))
    (xgt2 : PySem.W.findIn K (.ref cc2) "__getattr__" = some none)
    (xcl2 : PySem.W.findIn K (.ref cc2) "__class__" = some (some (.builtin "object.__class__")))
    (xmo2 : PySem.W.mroIn K cc2 (.type "object") = some true)
    (xve2 : PySem.W.subIn K (.ref cc2) (.type "ValueError") = some true)
    (xp_NoSign_CoverError : PySem.W.subIn K (.ref cc2) (.ref cc0) = some true)
    (xp_NoSign_NoWord : PySem.W.subIn K (.ref cc2) (.ref cc1) = some false)
    (xp_NoSign_NoSign : PySem.W.subIn K (.ref cc2) (.ref cc2) = some true)
    (xp_NoSign_NoText : PySem.W.subIn K (.ref cc2) (.ref cc3) = some false)
    (xp_NoSign_NoCover : PySem.W.subIn K (.ref cc2) (.ref cc4) = some false)
    (xp_NoSign_NoNumber : PySem.W.subIn K (.ref cc2) (.ref cc5) = some false)
    (xp_NoSign_NoChain : PySem.W.subIn K (.ref cc2) (.ref cc6) = some false)
    (xp_NoSign_TooMany : PySem.W.subIn K (.ref cc2) (.ref cc7) = some false)
    (xp_NoSign_NoForm : PySem.W.subIn K (.ref cc2) (.ref cc8) = some false)
    (xp_NoSign_NoneYet : PySem.W.subIn K (.ref cc2) (.ref cc9) = some false)
    (xga3 : PySem.W.findIn K (.ref cc3) "__getattribute__" = some (some (.builtin "BaseException.__getattribute__")))
    (xgt3 : PySem.W.findIn K (.ref cc3) "__getattr__" = some none)
    (xcl3 : PySem.W.findIn K (.ref cc3) "__class__" = some (some (.builtin "object.__class__")))
    (xmo3 : PySem.W.mroIn K cc3 (.type "object") = some true)
    (xve3 : PySem.W.subIn K (.ref cc3) (.type "ValueError") = some true)
    (xp_NoText_CoverError : PySem.W.subIn K (.ref cc3) (.ref cc0) = some true)
    (xp_NoText_NoWord : PySem.W.subIn K (.ref cc3) (.ref cc1) = some false)
    (xp_NoText_NoSign : PySem.W.subIn K (.ref cc3) (.ref cc2) = some false)
    (xp_NoText_NoText : PySem.W.subIn K (.ref cc3) (.ref cc3) = some true)
    (xp_NoText_NoCover : PySem.W.subIn K (.ref cc3) (.ref cc4) = some false)
    (xp_NoText_NoNumber : PySem.W.subIn K (.ref cc3) (.ref cc5) = some false)
    (xp_NoText_NoChain : PySem.W.subIn K (.ref cc3) (.ref cc6) = some false)
    (xp_NoText_TooMany : PySem.W.subIn K (.ref cc3) (.ref cc7) = some false)
    (xp_NoText_NoForm : PySem.W.subIn K (.ref cc3) (.ref cc8) = some false)
    (xp_NoText_NoneYet : PySem.W.subIn K (.ref cc3) (.ref cc9) = some false)
    (xga4 : PySem.W.findIn K (.ref cc4) "__getattribute__" = some (some (.builtin "BaseException.__getattribute__")))
    (xgt4 : PySem.W.findIn K (.ref cc4) "__getattr__" = some none)
    (xcl4 : PySem.W.findIn K (.ref cc4) "__class__" = some (some (.builtin "object.__class__")))
    (xmo4 : PySem.W.mroIn K cc4 (.type "object") = some true)
    (xve4 : PySem.W.subIn K (.ref cc4) (.type "ValueError") = some true)
    (xp_NoCover_CoverError : PySem.W.subIn K (.ref cc4) (.ref cc0) = some true)
    (xp_NoCover_NoWord : PySem.W.subIn K (.ref cc4) (.ref cc1) = some false)
    (xp_NoCover_NoSign : PySem.W.subIn K (.ref cc4) (.ref cc2) = some false)
    (xp_NoCover_NoText : PySem.W.subIn K (.ref cc4) (.ref cc3) = some false)
    (xp_NoCover_NoCover : PySem.W.subIn K (.ref cc4) (.ref cc4) = some true)
    (xp_NoCover_NoNumber : PySem.W.subIn K (.ref cc4) (.ref cc5) = some false)
    (xp_NoCover_NoChain : PySem.W.subIn K (.ref cc4) (.ref cc6) = some false)
    (xp_NoCover_TooMany : PySem.W.subIn K (.ref cc4) (.ref cc7) = some false)
    (xp_NoCover_NoForm : PySem.W.subIn K (.ref cc4) (.ref cc8) = some false)
    (xp_NoCover_NoneYet : PySem.W.subIn K (.ref cc4) (.ref cc9) = some false)
    (xga5 : PySem.W.findIn K (.ref cc5) "__getattribute__" = some (some (.builtin "BaseException.__getattribute__")))
    (xgt5 : PySem.W.findIn K (.ref cc5) "__getattr__" = some none)
    (xcl5 : PySem.W.findIn K (.ref cc5) "__class__" = some (some (.builtin "object.__class__")))
    (xmo5 : PySem.W.mroIn K cc5 (.type "object") = some true)
    (xve5 : PySem.W.subIn K (.ref cc5) (.type "ValueError") = some true)
    (xp_NoNumber_CoverError : PySem.W.subIn K (.ref cc5) (.ref cc0) = some true)
    (xp_NoNumber_NoWord : PySem.W.subIn K (.ref cc5) (.ref cc1) = some false)
    (xp_NoNumber_NoSign : PySem.W.subIn K (.ref cc5) (.ref cc2) = some false)
    (xp_NoNumber_NoText : PySem.W.subIn K (.ref cc5) (.ref cc3) = some false)
    (xp_NoNumber_NoCover : PySem.W.subIn K (.ref cc5) (.ref cc4) = some false)
    (xp_NoNumber_NoNumber : PySem.W.subIn K (.ref cc5) (.ref cc5) = some true)
    (xp_NoNumber_NoChain : PySem.W.subIn K (.ref cc5) (.ref cc6) = some false)
    (xp_NoNumber_TooMany : PySem.W.subIn K (.ref cc5) (.ref cc7) = some false)
    (xp_NoNumber_NoForm : PySem.W.subIn K (.ref cc5) (.ref cc8) = some false)
    (xp_NoNumber_NoneYet : PySem.W.subIn K (.ref cc5) (.ref cc9) = some false)
    (xga8 : PySem.W.findIn K (.ref cc8) "__getattribute__" = some (some (.builtin "BaseException.__getattribute__")))
    (xgt8 : PySem.W.findIn K (.ref cc8) "__getattr__" = some none)
    (xcl8 : PySem.W.findIn K (.ref cc8) "__class__" = some (some (.builtin "object.__class__")))
    (xmo8 : PySem.W.mroIn K cc8 (.type "object") = some true)
    (xve8 : PySem.W.subIn K (.ref cc8) (.type "ValueError") = some true)
    (xp_NoForm_CoverError : PySem.W.subIn K (.ref cc8) (.ref cc0) = some true)
    (xp_NoForm_NoWord : PySem.W.subIn K (.ref cc8) (.ref cc1) = some false)
    (xp_NoForm_NoSign : PySem.W.subIn K (.ref cc8) (.ref cc2) = some false)
    (xp_NoForm_NoText : PySem.W.subIn K (.ref cc8) (.ref cc3) = some false)
    (xp_NoForm_NoCover : PySem.W.subIn K (.ref cc8) (.ref cc4) = some false)
    (xp_NoForm_NoNumber : PySem.W.subIn K (.ref cc8) (.ref cc5) = some false)
    (xp_NoForm_NoChain : PySem.W.subIn K (.ref cc8) (.ref cc6) = some false)
    (xp_NoForm_TooMany : PySem.W.subIn K (.ref cc8) (.ref cc7) = some false)
    (xp_NoForm_NoForm : PySem.W.subIn K (.ref cc8) (.ref cc8) = some true)
    (xp_NoForm_NoneYet : PySem.W.subIn K (.ref cc8) (.ref cc9) = some false)
    (xga9 : PySem.W.findIn K (.ref cc9) "__getattribute__" = some (some (.builtin "BaseException.__getattribute__")))
    (xgt9 : PySem.W.findIn K (.ref cc9) "__getattr__" = some none)
    (xcl9 : PySem.W.findIn K (.ref cc9) "__class__" = some (some (.builtin "object.__class__")))
    (xmo9 : PySem.W.mroIn K cc9 (.type "object") = some true)
    (xve9 : PySem.W.subIn K (.ref cc9) (.type "ValueError") = some true)
    (xp_NoneYet_CoverError : PySem.W.subIn K (.ref cc9) (.ref cc0) = some true)
    (xp_NoneYet_NoWord : PySem.W.subIn K (.ref cc9) (.ref cc1) = some false)
    (xp_NoneYet_NoSign : PySem.W.subIn K (.ref cc9) (.ref cc2) = some false)
    (xp_NoneYet_NoText : PySem.W.subIn K (.ref cc9) (.ref cc3) = some false)
    (xp_NoneYet_NoCover : PySem.W.subIn K (.ref cc9) (.ref cc4) = some false)
    (xp_NoneYet_NoNumber : PySem.W.subIn K (.ref cc9) (.ref cc5) = some false)
    (xp_NoneYet_NoChain : PySem.W.subIn K (.ref cc9) (.ref cc6) = some false)
    (xp_NoneYet_TooMany : PySem.W.subIn K (.ref cc9) (.ref cc7) = some false)
    (xp_NoneYet_NoForm : PySem.W.subIn K (.ref cc9) (.ref cc8) = some false)
    (xp_NoneYet_NoneYet : PySem.W.subIn K (.ref cc9) (.ref cc9) = some true) :
    ∃ fd : FuncData, (∀ (s : Shared) (v : Value), BindsTo s fd ⟨[v], []⟩ [(Str.ofString "script", v)]) ∧ ∀ base : Heap, K.In base → base.Ns mainGlobals mg → FnOk l.prog w K mg base CX0 9 fa fd [Str.ofString "script"] (spLaw K Ov.F_law_k47) := by
  have e := hfa.symm.trans (PySem.W.mg_of X G a51)
  cases e
  have F0 := fun_mk (st := s_need_word) l0 c0 k0
  have F1 := fun_mk (st := s_need_signs) l1 c1 k1
  have F2 := fun_mk (st := s_need_text) l2 c2 k2
  have F3 := fun_mk (st := s_greatest_borders) l3 c3 k3
  have F4 := fun_mk (st := s_laid_at) l4 c4 k4
  have F5 := fun_mk (st := s_first_bare) l5 c5 k5
  have F6 := fun_mk (st := s_all_shifts) l6 c6 k6
  have F7 := fun_mk (st := s_misses) l7 c7 k7
  have F8 := fun_mk (st := s_need_length) l8 c8 k8
  have F9 := fun_mk (st := s_hung_ahead) l9 c9 k9
  have F10 := fun_mk (st := s_hung_behind) l10 c10 k10
  have F11 := fun_mk (st := s_are_letters) l11 c11 k11
  have F12 := fun_mk (st := s_is_length) l12 c12 k12
  have F13 := fun_mk (st := s_numbers_text) l13 c13 k13
  have F14 := fun_mk (st := s_Desk_need_told) l14 c14 k14
  have F15 := fun_mk (st := s__law_cell_at) l15 c15 k15
  have F16 := fun_mk (st := s__law_stir) l16 c16 k16
  have F17 := fun_mk (st := s__law_class) l17 c17 k17
  have F18 := fun_mk (st := s__law_menu) l18 c18 k18
  have F19 := fun_mk (st := s__law_signs) l19 c19 k19
  have F20 := fun_mk (st := s_borders) l20 c20 k20
  have F21 := fun_mk (st := s_lies_at) l21 c21 k21
  have F22 := fun_mk (st := s_need_both) l22 c22 k22
  have F23 := fun_mk (st := s_need_room) l23 c23 k23
  have F24 := fun_mk (st := s_best_from) l24 c24 k24
  have F25 := fun_mk (st := s_need_whole_word) l25 c25 k25
  have F26 := fun_mk (st := s_next_shifts) l26 c26 k26
  have F27 := fun_mk (st := s_covers_amid) l27 c27 k27
  have F28 := fun_mk (st := s_is_within) l28 c28 k28
  have F29 := fun_mk (st := s__law_digit) l29 c29 k29
  have F30 := fun_mk (st := s_covered) l30 c30 k30
  have F31 := fun_mk (st := s_onward) l31 c31 k31
  have F32 := fun_mk (st := s_fewest_by) l32 c32 k32
  have F33 := fun_mk (st := s_counts_to) l33 c33 k33
  have F34 := fun_mk (st := s_rest_behind) l34 c34 k34
  have F35 := fun_mk (st := s_rest_ahead) l35 c35 k35
  have F36 := fun_mk (st := s_covers_both) l36 c36 k36
  have F37 := fun_mk (st := s__law_word) l37 c37 k37
  have F38 := fun_mk (st := s_all_covers) l38 c38 k38
  have F39 := fun_mk (st := s_fewest_layings) l39 c39 k39
  have F40 := fun_mk (st := s_fewest_wrong) l40 c40 k40
  have F41 := fun_mk (st := s_count_by) l41 c41 k41
  have F42 := fun_mk (st := s_rest_both) l42 c42 k42
  have F43 := fun_mk (st := s__law_longer) l43 c43 k43
  have F44 := fun_mk (st := s_shortest_cover) l44 c44 k44
  have F45 := fun_mk (st := s_count_covered) l45 c45 k45
  have F46 := fun_mk (st := s_Desk_yes_or_no) l46 c46 k46
  have F47 := fun_mk (st := s_Desk_of_both) l47 c47 k47
  have F48 := fun_mk (st := s_Desk_of_text) l48 c48 k48
  have F49 := fun_mk (st := s_Desk_say) l49 c49 k49
  have F50 := fun_mk (st := s__law_said) l50 c50 k50
  have F51 := fun_mk (st := s_law) l51 c51 k51
  have FI := fun_mk (st := s_Desk_init) ql qc qk
  let T : Tp K mg := ⟨_, PySem.W.mg_of X G qC, obD_of (PySem.W.mg_of X G qC), ⟨qg, qd, qo, qs⟩, qt, qw, _, _, FI, FI.binds (ps := [Str.ofString "self"]) (fun _ _ _ _ _ _ us hl => match us, hl with | [_], _ => rfl), ⟨qm, qa, qi, qp⟩,
    _, _, F0, PySem.W.mg_of X G a0, F0.binds (ps := ps_need_word) (fun _ _ _ _ _ _ us hl => match us, hl with | [_], _ => rfl),
    _, _, F1, PySem.W.mg_of X G a1, F1.binds (ps := ps_need_signs) (fun _ _ _ _ _ _ us hl => match us, hl with | [_], _ => rfl),
    _, _, F2, PySem.W.mg_of X G a2, F2.binds (ps := ps_need_text) (fun _ _ _ _ _ _ us hl => match us, hl with | [_], _ => rfl),
    _, _, F3, PySem.W.mg_of X G a3, F3.binds (ps := ps_greatest_borders) (fun _ _ _ _ _ _ us hl => match us, hl with | [_], _ => rfl),
    _, _, F4, PySem.W.mg_of X G a4, F4.binds (ps := ps_laid_at) (fun _ _ _ _ _ _ us hl => match us, hl with | [_, _], _ => rfl),
    _, _, F5, PySem.W.mg_of X G a5, F5.binds (ps := ps_first_bare) (fun _ _ _ _ _ _ us hl => match us, hl with | [_, _, _], _ => rfl),
    _, _, F6, PySem.W.mg_of X G a6, F6.binds (ps := ps_all_shifts) (fun _ _ _ _ _ _ us hl => match us, hl with | [_], _ => rfl),
    _, _, F7, PySem.W.mg_of X G a7, F7.binds (ps := ps_misses) (fun _ _ _ _ _ _ us hl => match us, hl with | [_, _], _ => rfl),
    _, _, F8, PySem.W.mg_of X G a8, F8.binds (ps := ps_need_length) (fun _ _ _ _ _ _ us hl => match us, hl with | [_], _ => rfl),
    _, _, F9, PySem.W.mg_of X G a9, F9.binds (ps := ps_hung_ahead) (fun _ _ _ _ _ _ us hl => match us, hl with | [_, _], _ => rfl),
    _, _, F10, PySem.W.mg_of X G a10, F10.binds (ps := ps_hung_behind) (fun _ _ _ _ _ _ us hl => match us, hl with | [_, _], _ => rfl),
    _, _, F11, PySem.W.mg_of X G a11, F11.binds (ps := ps_are_letters) (fun _ _ _ _ _ _ us hl => match us, hl with | [_], _ => rfl),
    _, _, F12, PySem.W.mg_of X G a12, F12.binds (ps := ps_is_length) (fun _ _ _ _ _ _ us hl => match us, hl with | [_], _ => rfl),
    _, _, F13, PySem.W.mg_of X G a13, F13.binds (ps := ps_numbers_text) (fun _ _ _ _ _ _ us hl => match us, hl with | [_], _ => rfl),
    _, _, F14, ⟨a14, i14, k14⟩, F14.binds (ps := ps_Desk_need_told) (fun _ _ _ _ _ _ us hl => match us, hl with | [_, _, _], _ => rfl),
    _, _, F15, PySem.W.mg_of X G a15, F15.binds (ps := ps__law_cell_at) (fun _ _ _ _ _ _ us hl => match us, hl with | [_, _], _ => rfl),
    _, _, F16, PySem.W.mg_of X G a16, F16.binds (ps := ps__law_stir) (fun _ _ _ _ _ _ us hl => match us, hl with | [_, _], _ => rfl),
    _, _, F17, PySem.W.mg_of X G a17, F17.binds (ps := ps__law_class) (fun _ _ _ _ _ _ us hl => match us, hl with | [_], _ => rfl),
    _, _, F18, PySem.W.mg_of X G a18, F18.binds (ps := ps__law_menu) (fun _ _ _ _ _ _ us hl => match us, hl with | [], _ => rfl),
    _, _, F19, PySem.W.mg_of X G a19, F19.binds (ps := ps__law_signs) (fun _ _ _ _ _ _ us hl => match us, hl with | [], _ => rfl),
    _, _, F20, PySem.W.mg_of X G a20, F20.binds (ps := ps_borders) (fun _ _ _ _ _ _ us hl => match us, hl with | [_], _ => rfl),
    _, _, F21, PySem.W.mg_of X G a21, F21.binds (ps := ps_lies_at) (fun _ _ _ _ _ _ us hl => match us, hl with | [_, _], _ => rfl),
    _, _, F22, PySem.W.mg_of X G a22, F22.binds (ps := ps_need_both) (fun _ _ _ _ _ _ us hl => match us, hl with | [_, _], _ => rfl),
    _, _, F23, PySem.W.mg_of X G a23, F23.binds (ps := ps_need_room) (fun _ _ _ _ _ _ us hl => match us, hl with | [_, _], _ => rfl),
    _, _, F24, PySem.W.mg_of X G a24, F24.binds (ps := ps_best_from) (fun _ _ _ _ _ _ us hl => match us, hl with | [_, _], _ => rfl),
    _, _, F25, PySem.W.mg_of X G a25, F25.binds (ps := ps_need_whole_word) (fun _ _ _ _ _ _ us hl => match us, hl with | [_], _ => rfl),
    _, _, F26, PySem.W.mg_of X G a26, F26.binds (ps := ps_next_shifts) (fun _ _ _ _ _ _ us hl => match us, hl with | [_], _ => rfl),
    _, _, F27, PySem.W.mg_of X G a27, F27.binds (ps := ps_covers_amid) (fun _ _ _ _ _ _ us hl => match us, hl with | [_, _, _, _], _ => rfl),
    _, _, F28, PySem.W.mg_of X G a28, F28.binds (ps := ps_is_within) (fun _ _ _ _ _ _ us hl => match us, hl with | [_, _], _ => rfl),
    _, _, F29, PySem.W.mg_of X G a29, F29.binds (ps := ps__law_digit) (fun _ _ _ _ _ _ us hl => match us, hl with | [_, _, _], _ => rfl),
    _, _, F30, PySem.W.mg_of X G a30, F30.binds (ps := ps_covered) (fun _ _ _ _ _ _ us hl => match us, hl with | [_, _], _ => rfl),
    _, _, F31, PySem.W.mg_of X G a31, F31.binds (ps := ps_onward) (fun _ _ _ _ _ _ us hl => match us, hl with | [_, _], _ => rfl),
    _, _, F32, PySem.W.mg_of X G a32, F32.binds (ps := ps_fewest_by) (fun _ _ _ _ _ _ us hl => match us, hl with | [_, _], _ => rfl),
    _, _, F33, PySem.W.mg_of X G a33, F33.binds (ps := ps_counts_to) (fun _ _ _ _ _ _ us hl => match us, hl with | [_, _], _ => rfl),
    _, _, F34, PySem.W.mg_of X G a34, F34.binds (ps := ps_rest_behind) (fun _ _ _ _ _ _ us hl => match us, hl with | [_, _], _ => rfl),
    _, _, F35, PySem.W.mg_of X G a35, F35.binds (ps := ps_rest_ahead) (fun _ _ _ _ _ _ us hl => match us, hl with | [_, _], _ => rfl),
    _, _, F36, PySem.W.mg_of X G a36, F36.binds (ps := ps_covers_both) (fun _ _ _ _ _ _ us hl => match us, hl with | [_, _], _ => rfl),
    _, _, F37, PySem.W.mg_of X G a37, F37.binds (ps := ps__law_word) (fun _ _ _ _ _ _ us hl => match us, hl with | [_, _, _, _], _ => rfl),
    _, _, F38, PySem.W.mg_of X G a38, F38.binds (ps := ps_all_covers) (fun _ _ _ _ _ _ us hl => match us, hl with | [_], _ => rfl),
    _, _, F39, PySem.W.mg_of X G a39, F39.binds (ps := ps_fewest_layings) (fun _ _ _ _ _ _ us hl => match us, hl with | [_, _], _ => rfl),
    _, _, F40, PySem.W.mg_of X G a40, F40.binds (ps := ps_fewest_wrong) (fun _ _ _ _ _ _ us hl => match us, hl with | [_, _], _ => rfl),
    _, _, F41, PySem.W.mg_of X G a41, F41.binds (ps := ps_count_by) (fun _ _ _ _ _ _ us hl => match us, hl with | [_, _], _ => rfl),
    _, _, F42, PySem.W.mg_of X G a42, F42.binds (ps := ps_rest_both) (fun _ _ _ _ _ _ us hl => match us, hl with | [_, _], _ => rfl),
    _, _, F43, PySem.W.mg_of X G a43, F43.binds (ps := ps__law_longer) (fun _ _ _ _ _ _ us hl => match us, hl with | [_], _ => rfl),
    _, _, F44, PySem.W.mg_of X G a44, F44.binds (ps := ps_shortest_cover) (fun _ _ _ _ _ _ us hl => match us, hl with | [_], _ => rfl),
    _, _, F45, PySem.W.mg_of X G a45, F45.binds (ps := ps_count_covered) (fun _ _ _ _ _ _ us hl => match us, hl with | [_, _], _ => rfl),
    _, _, F46, ⟨a46, i46, k46⟩, F46.binds (ps := ps_Desk_yes_or_no) (fun _ _ _ _ _ _ us hl => match us, hl with | [_, _], _ => rfl),
    _, _, F47, ⟨a47, i47, k47⟩, F47.binds (ps := ps_Desk_of_both) (fun _ _ _ _ _ _ us hl => match us, hl with | [_, _], _ => rfl),
    _, _, F48, ⟨a48, i48, k48⟩, F48.binds (ps := ps_Desk_of_text) (fun _ _ _ _ _ _ us hl => match us, hl with | [_, _], _ => rfl),
    _, _, F49, ⟨a49, i49, k49⟩, F49.binds (ps := ps_Desk_say) (fun _ _ _ _ _ _ us hl => match us, hl with | [_, _], _ => rfl),
    _, _, F50, PySem.W.mg_of X G a50, F50.binds (ps := ps__law_said) (fun _ _ _ _ _ _ us hl => match us, hl with | [_, _], _ => rfl),
    _, _, F51, PySem.W.mg_of X G a51, F51.binds (ps := ps_law) (fun _ _ _ _ _ _ us hl => match us, hl with | [_], _ => rfl),
    _, PySem.W.mg_of X G e0,
    _, PySem.W.mg_of X G e1,
    _, PySem.W.mg_of X G e2,
    _, PySem.W.mg_of X G e3,
    PySem.W.mg_none_of X G z0,
    PySem.W.mg_none_of X G z1,
    PySem.W.mg_none_of X G z2,
    PySem.W.mg_none_of X G z3,
    PySem.W.mg_none_of X G z4,
    PySem.W.mg_none_of X G z5,
    PySem.W.mg_none_of X G z6,
    PySem.W.mg_none_of X G z7,
    PySem.W.mg_none_of X G z8,
    PySem.W.mg_none_of X G z9,
    PySem.W.mg_none_of X G z10,
    PySem.W.mg_none_of X G z11,
    cc0, ⟨xn0, PySem.W.mg_of X G xn0, xx0, xk0, xb0, xt0, xd0, xs0⟩,
    cc1, ⟨xn1, PySem.W.mg_of X G xn1, xx1, xk1, xb1, xt1, xd1, xs1⟩,
    cc2, ⟨xn2, PySem.W.mg_of X G xn2, xx2, xk2, xb2, xt2, xd2, xs2⟩,
    cc3, ⟨xn3, PySem.W.mg_of X G xn3, xx3, xk3, xb3, xt3, xd3, xs3⟩,
    cc4, ⟨xn4, PySem.W.mg_of X G xn4, xx4, xk4, xb4, xt4, xd4, xs4⟩,
    cc5, ⟨xn5, PySem.W.mg_of X G xn5, xx5, xk5, xb5, xt5, xd5, xs5⟩,
    cc6, ⟨xn6, PySem.W.mg_of X G xn6, xx6, xk6, xb6, xt6, xd6, xs6⟩,
    cc7, ⟨xn7, PySem.W.mg_of X G xn7, xx7, xk7, xb7, xt7, xd7, xs7⟩,
    cc8, ⟨xn8, PySem.W.mg_of X G xn8, xx8, xk8, xb8, xt8, xd8, xs8⟩,
    cc9, ⟨xn9, PySem.W.mg_of X G xn9, xx9, xk9, xb9, xt9, xd9, xs9⟩,
    ⟨xga1, xgt1, xb1, xd1, xcl1, xg, xtk, xmo1⟩, xve1,
    xp_NoWord_CoverError,
    xp_NoWord_NoWord,
    xp_NoWord_NoSign,
    xp_NoWord_NoText,
    xp_NoWord_NoCover,
    xp_NoWord_NoNumber,
    xp_NoWord_NoChain,
    xp_NoWord_TooMany,
    xp_NoWord_NoForm,
    xp_NoWord_NoneYet,
    ⟨xga2, xgt2, xb2, xd2, xcl2, xg, xtk, xmo2⟩, xve2,
    xp_NoSign_CoverError,
    xp_NoSign_NoWord,
    xp_NoSign_NoSign,
    xp_NoSign_NoText,
    xp_NoSign_NoCover,
    xp_NoSign_NoNumber,
    xp_NoSign_NoChain,
    xp_NoSign_TooMany,
    xp_NoSign_NoForm,
    xp_NoSign_NoneYet,
    ⟨xga3, xgt3, xb3, xd3, xcl3, xg, xtk, xmo3⟩, xve3,
    xp_NoText_CoverError,
    xp_NoText_NoWord,
    xp_NoText_NoSign,
    xp_NoText_NoText,
    xp_NoText_NoCover,
    xp_NoText_NoNumber,
    xp_NoText_NoChain,
    xp_NoText_TooMany,
    xp_NoText_NoForm,
    xp_NoText_NoneYet,
    ⟨xga4, xgt4, xb4, xd4, xcl4, xg, xtk, xmo4⟩, xve4,
    xp_NoCover_CoverError,
    xp_NoCover_NoWord,
    xp_NoCover_NoSign,
    xp_NoCover_NoText,
    xp_NoCover_NoCover,
    xp_NoCover_NoNumber,
    xp_NoCover_NoChain,
    xp_NoCover_TooMany,
    xp_NoCover_NoForm,
    xp_NoCover_NoneYet,
    ⟨xga5, xgt5, xb5, xd5, xcl5, xg, xtk, xmo5⟩, xve5,
    xp_NoNumber_CoverError,
    xp_NoNumber_NoWord,
    xp_NoNumber_NoSign,
    xp_NoNumber_NoText,
    xp_NoNumber_NoCover,
    xp_NoNumber_NoNumber,
    xp_NoNumber_NoChain,
    xp_NoNumber_TooMany,
    xp_NoNumber_NoForm,
    xp_NoNumber_NoneYet,
    ⟨xga8, xgt8, xb8, xd8, xcl8, xg, xtk, xmo8⟩, xve8,
    xp_NoForm_CoverError,
    xp_NoForm_NoWord,
    xp_NoForm_NoSign,
    xp_NoForm_NoText,
    xp_NoForm_NoCover,
    xp_NoForm_NoNumber,
    xp_NoForm_NoChain,
    xp_NoForm_TooMany,
    xp_NoForm_NoForm,
    xp_NoForm_NoneYet,
    ⟨xga9, xgt9, xb9, xd9, xcl9, xg, xtk, xmo9⟩, xve9,
    xp_NoneYet_CoverError,
    xp_NoneYet_NoWord,
    xp_NoneYet_NoSign,
    xp_NoneYet_NoText,
    xp_NoneYet_NoCover,
    xp_NoneYet_NoNumber,
    xp_NoneYet_NoChain,
    xp_NoneYet_TooMany,
    xp_NoneYet_NoForm,
    xp_NoneYet_NoneYet⟩
  exact ⟨_, fun s v => .of_eq rfl, fun base _ _ => ok_law T⟩
end Lk47
open PySem PySem.W PyProof.Rows
set_option maxHeartbeats 0 in
theorem PySem.Challenge.cw_overlaid_k47_rows_of_no_form_holds : PySem.Challenge.rw_overlaid_k47_rows_of_no_form.Holds := by
  w_on; o_law; k_head; (case hw => w_witness2)
  k_fill
  refine L2.walk_of (l := PySem.Challenge.rw_overlaid_k47_rows_of_no_form) (n := 63) (k := 9) (x := "script") (CX := fun _ => L2.CX0) (sp := fun w => MV.spLaw _ Ov.F_law_k47) rfl (by decide) rfl ⟨rfl, by decide, by decide⟩ (fun w h Y => PySem.W.kIn_of Y) ?F (fun _ _ a ns hl _ hS => ⟨rfl, a, ns, rfl, hS, Ov.true_law_k47 ns hl, fun _ => rfl⟩) (fun _ _ _ _ _ h => h)
  case F =>
    intro w mg fa h KX G hmg
    refine' Lk47.all_mk KX G hmg ?qC ?qa ?qi ?ql ?qc ?qk ?qg ?qd ?qo ?qs ?qm ?qp ?qt ?qw ?a0 ?l0 ?c0 ?k0 ?a1 ?l1 ?c1 ?k1 ?a2 ?l2 ?c2 ?k2 ?a3 ?l3 ?c3 ?k3 ?a4 ?l4 ?c4 ?k4 ?a5 ?l5 ?c5 ?k5 ?a6 ?l6 ?c6 ?k6 ?a7 ?l7 ?c7 ?k7 ?a8 ?l8 ?c8 ?k8 ?a9 ?l9 ?c9 ?k9 ?a10 ?l10 ?c10 ?k10 ?a11 ?l11 ?c11 ?k11 ?a12 ?l12 ?c12 ?k12 ?a13 ?l13 ?c13 ?k13 ?a14 ?i14 ?l14 ?c14 ?k14 ?a15 ?l15 ?c15 ?k15 ?a16 ?l16 ?c16 ?k16 ?a17 ?l17 ?c17 ?k17 ?a18 ?l18 ?c18 ?k18 ?a19 ?l19 ?c19 ?k19 ?a20 ?l20 ?c20 ?k20 ?a21 ?l21 ?c21 ?k21 ?a22 ?l22 ?c22 ?k22 ?a23 ?l23 ?c23 ?k23 ?a24 ?l24 ?c24 ?k24 ?a25 ?l25 ?c25 ?k25 ?a26 ?l26 ?c26 ?k26 ?a27 ?l27 ?c27 ?k27 ?a28 ?l28 ?c28 ?k28 ?a29 ?l29 ?c29 ?k29 ?a30 ?l30 ?c30 ?k30 ?a31 ?l31 ?c31 ?k31 ?a32 ?l32 ?c32 ?k32 ?a33 ?l33 ?c33 ?k33 ?a34 ?l34 ?c34 ?k34 ?a35 ?l35 ?c35 ?k35 ?a36 ?l36 ?c36 ?k36 ?a37 ?l37 ?c37 ?k37 ?a38 ?l38 ?c38 ?k38 ?a39 ?l39 ?c39 ?k39 ?a40 ?l40 ?c40 ?k40 ?a41 ?l41 ?c41 ?k41 ?a42 ?l42 ?c42 ?k42 ?a43 ?l43 ?c43 ?k43 ?a44 ?l44 ?c44 ?k44 ?a45 ?l45 ?c45 ?k45 ?a46 ?i46 ?l46 ?c46 ?k46 ?a47 ?i47 ?l47 ?c47 ?k47 ?a48 ?i48 ?l48 ?c48 ?k48 ?a49 ?i49 ?l49 ?c49 ?k49 ?a50 ?l50 ?c50 ?k50 ?a51 ?l51 ?c51 ?k51 ?e0 ?e1 ?e2 ?e3 ?z0 ?z1 ?z2 ?z3 ?z4 ?z5 ?z6 ?z7 ?z8 ?z9 ?z10 ?z11 ?xn0 ?xx0 ?xk0 ?xb0 ?xt0 ?xd0 ?xs0 ?xn1 ?xx1 ?xk1 ?xb1 ?xt1 ?xd1 ?xs1 ?xn2 ?xx2 ?xk2 ?xb2 ?xt2 ?xd2 ?xs2 ?xn3 ?xx3 ?xk3 ?xb3 ?xt3 ?xd3 ?xs3 ?xn4 ?xx4 ?xk4 ?xb4 ?xt4 ?xd4 ?xs4 ?xn5 ?xx5 ?xk5 ?xb5 ?xt5 ?xd5 ?xs5 ?xn6 ?xx6 ?xk6 ?xb6 ?xt6 ?xd6 ?xs6 ?xn7 ?xx7 ?xk7 ?xb7 ?xt7 ?xd7 ?xs7 ?xn8 ?xx8 ?xk8 ?xb8 ?xt8 ?xd8 ?xs8 ?xn9 ?xx9 ?xk9 ?xb9 ?xt9 ?xd9 ?xs9 ?xg ?xtk ?xga1 ?xgt1 ?xcl1 ?xmo1 ?xve1 ?xp_NoWord_CoverError ?xp_NoWord_NoWord ?xp_NoWord_NoSign ?xp_NoWord_NoText ?xp_NoWord_NoCover ?xp_NoWord_NoNumber ?xp_NoWord_NoChain ?xp_NoWord_TooMany ?xp_NoWord_NoForm ?xp_NoWord_NoneYet ?xga2 ?xgt2 ?xcl2 ?xmo2 ?xve2 ?xp_NoSign_CoverError ?xp_NoSign_NoWord ?xp_NoSign_NoSign ?xp_NoSign_NoText ?xp_NoSign_NoCover ?xp_NoSign_NoNumber ?xp_NoSign_NoChain ?xp_NoSign_TooMany ?xp_NoSign_NoForm ?xp_NoSign_NoneYet ?xga3 ?xgt3 ?xcl3 ?xmo3 ?xve3 ?xp_NoText_CoverError ?xp_NoText_NoWord ?xp_NoText_NoSign ?xp_NoText_NoText ?xp_NoText_NoCover ?xp_NoText_NoNumber ?xp_NoText_NoChain ?xp_NoText_TooMany ?xp_NoText_NoForm ?xp_NoText_NoneYet ?xga4 ?xgt4 ?xcl4 ?xmo4 ?xve4 ?xp_NoCover_CoverError ?xp_NoCover_NoWord ?xp_NoCover_NoSign ?xp_NoCover_NoText ?xp_NoCover_NoCover ?xp_NoCover_NoNumber ?xp_NoCover_NoChain ?xp_NoCover_TooMany ?xp_NoCover_NoForm ?xp_NoCover_NoneYet ?xga5 ?xgt5 ?xcl5 ?xmo5 ?xve5 ?xp_NoNumber_CoverError ?xp_NoNumber_NoWord ?xp_NoNumber_NoSign ?xp_NoNumber_NoText ?xp_NoNumber_NoCover ?xp_NoNumber_NoNumber ?xp_NoNumber_NoChain ?xp_NoNumber_TooMany ?xp_NoNumber_NoForm ?xp_NoNumber_NoneYet ?xga8 ?xgt8 ?xcl8 ?xmo8 ?xve8 ?xp_NoForm_CoverError ?xp_NoForm_NoWord ?xp_NoForm_NoSign ?xp_NoForm_NoText ?xp_NoForm_NoCover ?xp_NoForm_NoNumber ?xp_NoForm_NoChain ?xp_NoForm_TooMany ?xp_NoForm_NoForm ?xp_NoForm_NoneYet ?xga9 ?xgt9 ?xcl9 ?xmo9 ?xve9 ?xp_NoneYet_CoverError ?xp_NoneYet_NoWord ?xp_NoneYet_NoSign ?xp_NoneYet_NoText ?xp_NoneYet_NoCover ?xp_NoneYet_NoNumber ?xp_NoneYet_NoChain ?xp_NoneYet_TooMany ?xp_NoneYet_NoForm ?xp_NoneYet_NoneYet
    (case qC => k_is); (case qa => k_is); (case qi => k_is); (case ql => k_is); (case qc => k_is); (case qk => k_is); (case qg => k_is); (case qd => k_is); (case qo => k_is); (case qs => k_is); (case qm => k_is); (case qp => k_is); (case qt => k_is); (case qw => k_is); (case a0 => k_is); (case l0 => k_is); (case c0 => k_is); (case k0 => k_is); (case a1 => k_is); (case l1 => k_is); (case c1 => k_is); (case k1 => k_is); (case a2 => k_is); (case l2 => k_is); (case c2 => k_is); (case k2 => k_is); (case a3 => k_is); (case l3 => k_is); (case c3 => k_is); (case k3 => k_is); (case a4 => k_is); (case l4 => k_is); (case c4 => k_is); (case k4 => k_is); (case a5 => k_is); (case l5 => k_is); (case c5 => k_is); (case k5 => k_is); (case a6 => k_is); (case l6 => k_is); (case c6 => k_is); (case k6 => k_is); (case a7 => k_is); (case l7 => k_is); (case c7 => k_is); (case k7 => k_is); (case a8 => k_is); (case l8 => k_is); (case c8 => k_is); (case k8 => k_is); (case a9 => k_is); (case l9 => k_is); (case c9 => k_is); (case k9 => k_is); (case a10 => k_is); (case l10 => k_is); (case c10 => k_is); (case k10 => k_is); (case a11 => k_is); (case l11 => k_is); (case c11 => k_is); (case k11 => k_is); (case a12 => k_is); (case l12 => k_is); (case c12 => k_is); (case k12 => k_is); (case a13 => k_is); (case l13 => k_is); (case c13 => k_is); (case k13 => k_is); (case a14 => k_is); (case i14 => k_is); (case l14 => k_is); (case c14 => k_is); (case k14 => k_is); (case a15 => k_is); (case l15 => k_is); (case c15 => k_is); (case k15 => k_is); (case a16 => k_is); (case l16 => k_is); (case c16 => k_is); (case k16 => k_is); (case a17 => k_is); (case l17 => k_is); (case c17 => k_is); (case k17 => k_is); (case a18 => k_is); (case l18 => k_is); (case c18 => k_is); (case k18 => k_is); (case a19 => k_is); (case l19 => k_is); (case c19 => k_is); (case k19 => k_is); (case a20 => k_is); (case l20 => k_is); (case c20 => k_is); (case k20 => k_is); (case a21 => k_is); (case l21 => k_is); (case c21 => k_is); (case k21 => k_is); (case a22 => k_is); (case l22 => k_is); (case c22 => k_is); (case k22 => k_is); (case a23 => k_is); (case l23 => k_is); (case c23 => k_is); (case k23 => k_is); (case a24 => k_is); (case l24 => k_is); (case c24 => k_is); (case k24 => k_is); (case a25 => k_is); (case l25 => k_is); (case c25 => k_is); (case k25 => k_is); (case a26 => k_is); (case l26 => k_is); (case c26 => k_is); (case k26 => k_is); (case a27 => k_is); (case l27 => k_is); (case c27 => k_is); (case k27 => k_is); (case a28 => k_is); (case l28 => k_is); (case c28 => k_is); (case k28 => k_is); (case a29 => k_is); (case l29 => k_is); (case c29 => k_is); (case k29 => k_is); (case a30 => k_is); (case l30 => k_is); (case c30 => k_is); (case k30 => k_is); (case a31 => k_is); (case l31 => k_is); (case c31 => k_is); (case k31 => k_is); (case a32 => k_is); (case l32 => k_is); (case c32 => k_is); (case k32 => k_is); (case a33 => k_is); (case l33 => k_is); (case c33 => k_is); (case k33 => k_is); (case a34 => k_is); (case l34 => k_is); (case c34 => k_is); (case k34 => k_is); (case a35 => k_is); (case l35 => k_is); (case c35 => k_is); (case k35 => k_is); (case a36 => k_is); (case l36 => k_is); (case c36 => k_is); (case k36 => k_is); (case a37 => k_is); (case l37 => k_is); (case c37 => k_is); (case k37 => k_is); (case a38 => k_is); (case l38 => k_is); (case c38 => k_is); (case k38 => k_is); (case a39 => k_is); (case l39 => k_is); (case c39 => k_is); (case k39 => k_is); (case a40 => k_is); (case l40 => k_is); (case c40 => k_is); (case k40 => k_is); (case a41 => k_is); (case l41 => k_is); (case c41 => k_is); (case k41 => k_is); (case a42 => k_is); (case l42 => k_is); (case c42 => k_is); (case k42 => k_is); (case a43 => k_is); (case l43 => k_is); (case c43 => k_is); (case k43 => k_is); (case a44 => k_is); (case l44 => k_is); (case c44 => k_is); (case k44 => k_is); (case a45 => k_is); (case l45 => k_is); (case c45 => k_is); (case k45 => k_is); (case a46 => k_is); (case i46 => k_is); (case l46 => k_is); (case c46 => k_is); (case k46 => k_is); (case a47 => k_is); (case i47 => k_is); (case l47 => k_is); (case c47 => k_is); (case k47 => k_is); (case a48 => k_is); (case i48 => k_is); (case l48 => k_is); (case c48 => k_is); (case k48 => k_is); (case a49 => k_is); (case i49 => k_is); (case l49 => k_is); (case c49 => k_is); (case k49 => k_is); (case a50 => k_is); (case l50 => k_is); (case c50 => k_is); (case k50 => k_is); (case a51 => k_is); (case l51 => k_is); (case c51 => k_is); (case k51 => k_is); (case e0 => k_is); (case e1 => k_is); (case e2 => k_is); (case e3 => k_is); (case z0 => k_is); (case z1 => k_is); (case z2 => k_is); (case z3 => k_is); (case z4 => k_is); (case z5 => k_is); (case z6 => k_is); (case z7 => k_is); (case z8 => k_is); (case z9 => k_is); (case z10 => k_is); (case z11 => k_is); (case xn0 => k_is); (case xx0 => k_exc); (case xk0 => k_is); (case xb0 => k_is); (case xt0 => k_is); (case xd0 => k_is); (case xs0 => k_is); (case xn1 => k_is); (case xx1 => k_exc); (case xk1 => k_is); (case xb1 => k_is); (case xt1 => k_is); (case xd1 => k_is); (case xs1 => k_is); (case xn2 => k_is); (case xx2 => k_exc); (case xk2 => k_is); (case xb2 => k_is); (case xt2 => k_is); (case xd2 => k_is); (case xs2 => k_is); (case xn3 => k_is); (case xx3 => k_exc); (case xk3 => k_is); (case xb3 => k_is); (case xt3 => k_is); (case xd3 => k_is); (case xs3 => k_is); (case xn4 => k_is); (case xx4 => k_exc); (case xk4 => k_is); (case xb4 => k_is); (case xt4 => k_is); (case xd4 => k_is); (case xs4 => k_is); (case xn5 => k_is); (case xx5 => k_exc); (case xk5 => k_is); (case xb5 => k_is); (case xt5 => k_is); (case xd5 => k_is); (case xs5 => k_is); (case xn6 => k_is); (case xx6 => k_exc); (case xk6 => k_is); (case xb6 => k_is); (case xt6 => k_is); (case xd6 => k_is); (case xs6 => k_is); (case xn7 => k_is); (case xx7 => k_exc); (case xk7 => k_is); (case xb7 => k_is); (case xt7 => k_is); (case xd7 => k_is); (case xs7 => k_is); (case xn8 => k_is); (case xx8 => k_exc); (case xk8 => k_is); (case xb8 => k_is); (case xt8 => k_is); (case xd8 => k_is); (case xs8 => k_is); (case xn9 => k_is); (case xx9 => k_exc); (case xk9 => k_is); (case xb9 => k_is); (case xt9 => k_is); (case xd9 => k_is); (case xs9 => k_is); (case xg => k_is); (case xtk => k_is); (case xga1 => k_is); (case xgt1 => k_is); (case xcl1 => k_is); (case xmo1 => k_is); (case xve1 => k_is); (case xp_NoWord_CoverError => k_is); (case xp_NoWord_NoWord => k_is); (case xp_NoWord_NoSign => k_is); (case xp_NoWord_NoText => k_is); (case xp_NoWord_NoCover => k_is); (case xp_NoWord_NoNumber => k_is); (case xp_NoWord_NoChain => k_is); (case xp_NoWord_TooMany => k_is); (case xp_NoWord_NoForm => k_is); (case xp_NoWord_NoneYet => k_is); (case xga2 => k_is); (case xgt2 => k_is); (case xcl2 => k_is); (case xmo2 => k_is); (case xve2 => k_is); (case xp_NoSign_CoverError => k_is); (case xp_NoSign_NoWord => k_is); (case xp_NoSign_NoSign => k_is); (case xp_NoSign_NoText => k_is); (case xp_NoSign_NoCover => k_is); (case xp_NoSign_NoNumber => k_is); (case xp_NoSign_NoChain => k_is); (case xp_NoSign_TooMany => k_is); (case xp_NoSign_NoForm => k_is); (case xp_NoSign_NoneYet => k_is); (case xga3 => k_is); (case xgt3 => k_is); (case xcl3 => k_is); (case xmo3 => k_is); (case xve3 => k_is); (case xp_NoText_CoverError => k_is); (case xp_NoText_NoWord => k_is); (case xp_NoText_NoSign => k_is); (case xp_NoText_NoText => k_is); (case xp_NoText_NoCover => k_is); (case xp_NoText_NoNumber => k_is); (case xp_NoText_NoChain => k_is); (case xp_NoText_TooMany => k_is); (case xp_NoText_NoForm => k_is); (case xp_NoText_NoneYet => k_is); (case xga4 => k_is); (case xgt4 => k_is); (case xcl4 => k_is); (case xmo4 => k_is); (case xve4 => k_is); (case xp_NoCover_CoverError => k_is); (case xp_NoCover_NoWord => k_is); (case xp_NoCover_NoSign => k_is); (case xp_NoCover_NoText => k_is); (case xp_NoCover_NoCover => k_is); (case xp_NoCover_NoNumber => k_is); (case xp_NoCover_NoChain => k_is); (case xp_NoCover_TooMany => k_is); (case xp_NoCover_NoForm => k_is); (case xp_NoCover_NoneYet => k_is); (case xga5 => k_is); (case xgt5 => k_is); (case xcl5 => k_is); (case xmo5 => k_is); (case xve5 => k_is); (case xp_NoNumber_CoverError => k_is); (case xp_NoNumber_NoWord => k_is); (case xp_NoNumber_NoSign => k_is); (case xp_NoNumber_NoText => k_is); (case xp_NoNumber_NoCover => k_is); (case xp_NoNumber_NoNumber => k_is); (case xp_NoNumber_NoChain => k_is); (case xp_NoNumber_TooMany => k_is); (case xp_NoNumber_NoForm => k_is); (case xp_NoNumber_NoneYet => k_is); (case xga8 => k_is); (case xgt8 => k_is); (case xcl8 => k_is); (case xmo8 => k_is); (case xve8 => k_is); (case xp_NoForm_CoverError => k_is); (case xp_NoForm_NoWord => k_is); (case xp_NoForm_NoSign => k_is); (case xp_NoForm_NoText => k_is); (case xp_NoForm_NoCover => k_is); (case xp_NoForm_NoNumber => k_is); (case xp_NoForm_NoChain => k_is); (case xp_NoForm_TooMany => k_is); (case xp_NoForm_NoForm => k_is); (case xp_NoForm_NoneYet => k_is); (case xga9 => k_is); (case xgt9 => k_is); (case xcl9 => k_is); (case xmo9 => k_is); (case xve9 => k_is); (case xp_NoneYet_CoverError => k_is); (case xp_NoneYet_NoWord => k_is); (case xp_NoneYet_NoSign => k_is); (case xp_NoneYet_NoText => k_is); (case xp_NoneYet_NoCover => k_is); (case xp_NoneYet_NoNumber => k_is); (case xp_NoneYet_NoChain => k_is); (case xp_NoneYet_TooMany => k_is); (case xp_NoneYet_NoForm => k_is); (case xp_NoneYet_NoneYet => k_is)

