import PyProof.Rows.All
import Wide.All
import OpenK.AllK
import Wide.FinOn
import HandS.ForMost
import HandS.ForExc
import HandS.ExcCtx
import HandS.HotCalls
import HandS.ExcIs
import HandS.ExcValue
import HandS.Style
import HandS.Wide
import HandS.Conv
import PyProof.ListStr
import HandS.Zip
import HandS.IsInst
import HandS.TryOnly
import HandS.Set
import HandS.SetFor
import HandS.SortInts
import HandS.More
import HandS.Dict
import HandS.Strs
import KE.DataMinMax
import KE.SortData
import HandS.SortKw
import HandS.Deep
import HandS.TupLe
import HandS.Replace
import KE.KDictWalk
import KE.BitLaws
import PySem.Challenge.RW_overlaid_k20_texts_that_show_it
set_option Elab.async false
set_option linter.all false
set_option maxRecDepth 100000
set_option maxHeartbeats 4000000
set_option autoImplicit false
namespace MV
open PySem L2
inductive D where
  | non
  | bl (b : Bool)
  | int (i : Int)
  | str (x : Str)
  | lst (xs : List D)
  | tup (xs : List D)
  | dic (kvs : List (Key × D))
  | dit (kvs : List (List Key × D))
  | exc (c : Str)
  deriving Inhabited
def D.toV : D → Option V
  | .non => some .non
  | .bl b => some (.bl b)
  | .int i => some (.int i)
  | .str x => some (.str x)
  | _ => none
def D.sc (d : D) : Bool := d.toV.isSome
def D.flat : D → Bool
  | .lst xs => xs.all D.sc
  | .tup xs => xs.all D.sc
  | d => d.sc
def Ex (H H' : Hp) : Prop := ∀ a o, H a = some o → H' a = some o
theorem Ex.refl (H : Hp) : Ex H H := fun _ _ h => h
theorem Ex.trans {H H1 H2 : Hp} (a : Ex H H1) (b : Ex H1 H2) : Ex H H2 := fun x o h => b x o (a x o h)
theorem Ex.new {H : Hp} {p : Addr} {o : HO} (h : H p = none) : Ex H (upd H p o) := fun a u e => by
  rw [upd_ne (ne_of_none e h)]; exact e
theorem Ex.dom {H H' : Hp} (e : Ex H H') {a : Addr} (h : H a ≠ none) : H' a ≠ none := by
  cases q : H a with
  | none => exact absurd q h
  | some o => rw [e a o q]; exact fun z => by cases z
theorem Ex.back {H H' : Hp} (e : Ex H H') {a : Addr} (h : H' a = none) : H a = none := by
  cases q : H a with
  | none => rfl
  | some o => rw [e a o q] at h; cases h
def nw (H H' : Hp) : Hp := fun a => match H a with | none => H' a | some _ => none
def grow (G H H' : Hp) : Hp := fun a => match H a with | none => H' a | some _ => G a
def rs (G B : Hp) : Hp := fun a => match B a with | none => G a | some _ => none
def rm (G : Hp) (w : List Addr) : Hp := fun a => if a ∈ w then none else G a
theorem grow_none {G H H' : Hp} {a : Addr} (h : H a = none) : grow G H H' a = H' a := by unfold grow; rw [h]
theorem grow_some {G H H' : Hp} {a : Addr} {o : HO} (h : H a = some o) : grow G H H' a = G a := by unfold grow; rw [h]
theorem rs_none {G B : Hp} {a : Addr} (h : B a = none) : rs G B a = G a := by unfold rs; rw [h]
theorem rs_some {G B : Hp} {a : Addr} {o : HO} (h : B a = some o) : rs G B a = none := by unfold rs; rw [h]
theorem nw_none {H H' : Hp} {a : Addr} (h : H a = none) : nw H H' a = H' a := by unfold nw; rw [h]
theorem nw_some {H H' : Hp} {a : Addr} {o : HO} (h : H a = some o) : nw H H' a = none := by unfold nw; rw [h]
theorem Ex.grow {G H H' : Hp} (e : Ex G H) (x : Ex H H') : Ex G (grow G H H') := fun a o h => by
  rw [grow_some (e a o h)]; exact h
theorem grow_sub {G H H' : Hp} (e : Ex G H) (x : Ex H H') : Ex (grow G H H') H' := fun a o h => by
  cases q : H a with
  | none => rw [grow_none q] at h; exact h
  | some u => rw [grow_some q] at h; exact x a o (e a o h)
theorem rs_sub (G B : Hp) : Ex (rs G B) G := fun a o h => by
  cases q : B a with
  | none => rw [rs_none q] at h; exact h
  | some u => rw [rs_some q] at h; cases h
theorem rs_mono {G G' B : Hp} (e : Ex G G') : Ex (rs G B) (rs G' B) := fun a o h => by
  cases q : B a with
  | none => rw [rs_none q] at h ⊢; exact e a o h
  | some u => rw [rs_some q] at h; cases h
theorem rm_sub (G : Hp) (w : List Addr) : Ex (rm G w) G := fun a o h => by
  unfold rm at h; split at h
  · cases h
  · exact h
def SqLx (K : PySem.W.Frag) : Bool → Hp → Addr → List V → Prop
  | true, G, a, xs => G a = some (.lst xs)
  | false, G, a, xs => SqL K G a xs
def SqTx (K : PySem.W.Frag) : Bool → Hp → Addr → List V → Prop
  | true, G, a, xs => G a = some (.tup xs)
  | false, G, a, xs => SqT K G a xs
def DqK : Bool → Hp → Addr → List (Key × V) → Prop
  | true, G, a, kvs => G a = some (.dK kvs)
  | false, G, a, kvs => ∃ o, G a = some (.frz o (.dK kvs))
def cvK (K : PySem.W.Frag) (c : Str) : Value := match PySem.W.nsIn K mainGlobals c with
  | some (some v) => v
  | _ => .none
def ExH (cls : Value) (a : Addr) : HO := .ext fun h => ∃ (oe : Obj) (vs : Array Value), h.get? a = some oe ∧ oe.cls = cls ∧ oe.dict = none ∧ oe.data = .fields vs
mutual
inductive Rp (K : PySem.W.Frag) (x : Bool) (G : Hp) : V → D → Prop
  | sc {v : V} {d : D} : d.toV = some v → Rp K x G v d
  | lst {a : Addr} {xs : List V} {ds : List D} : SqLx K x G a xs → RpL K x G xs ds → Rp K x G (.ref a) (.lst ds)
  | tup {a : Addr} {xs : List V} {ds : List D} : SqTx K x G a xs → RpL K x G xs ds → Rp K x G (.ref a) (.tup ds)
  | dic {a : Addr} {ks : List Key} {vs : List V} {ds : List D} : DqK x G a (ks.zip vs) → ks.length = vs.length → RpL K x G vs ds → Rp K x G (.ref a) (.dic (ks.zip ds))
  | dit {a : Addr} {ks : List (List Key)} {vs : List V} {ds : List D} : Rd G a (.dT (ks.zip vs)) → ks.length = vs.length → RpL K x G vs ds → Rp K x G (.ref a) (.dit (ks.zip ds))
  | exc {a : Addr} {c : Str} : G a = some (ExH (cvK K c) a) → Rp K x G (.ref a) (.exc c)
inductive RpL (K : PySem.W.Frag) (x : Bool) (G : Hp) : List V → List D → Prop
  | nil : RpL K x G [] []
  | cons {v : V} {vs : List V} {d : D} {ds : List D} : Rp K x G v d → RpL K x G vs ds → RpL K x G (v :: vs) (d :: ds)
end
theorem ex_sql {K : PySem.W.Frag} {H H' : Hp} {a : Addr} {xs : List V} (e : Ex H H') (h : SqL K H a xs) : SqL K H' a xs := by
  rcases h with (h | ⟨o, h⟩) | h
  · exact .inl (.inl (e _ _ h))
  · exact .inl (.inr ⟨o, e _ _ h⟩)
  · exact .inr h
theorem ex_sqt {K : PySem.W.Frag} {H H' : Hp} {a : Addr} {xs : List V} (e : Ex H H') (h : SqT K H a xs) : SqT K H' a xs := by
  rcases h with (h | ⟨o, h⟩) | h
  · exact .inl (.inl (e _ _ h))
  · exact .inl (.inr ⟨o, e _ _ h⟩)
  · exact .inr h
theorem SqLx.any {K : PySem.W.Frag} {H : Hp} {a : Addr} {xs : List V} {x : Bool} (h : SqLx K x H a xs) : SqL K H a xs := by
  cases x with
  | true => exact .inl (.inl h)
  | false => exact h
theorem SqTx.any {K : PySem.W.Frag} {H : Hp} {a : Addr} {xs : List V} {x : Bool} (h : SqTx K x H a xs) : SqT K H a xs := by
  cases x with
  | true => exact .inl (.inl h)
  | false => exact h
theorem SqLx.of {K : PySem.W.Frag} {H : Hp} {a : Addr} {xs : List V} {x : Bool} (h : H a = some (.lst xs)) : SqLx K x H a xs := by
  cases x with
  | true => exact h
  | false => exact .inl (.inl h)
theorem SqTx.of {K : PySem.W.Frag} {H : Hp} {a : Addr} {xs : List V} {x : Bool} (h : H a = some (.tup xs)) : SqTx K x H a xs := by
  cases x with
  | true => exact h
  | false => exact .inl (.inl h)
theorem ex_sqlx {K : PySem.W.Frag} {x y : Bool} {H H' : Hp} {a : Addr} {xs : List V} (e : Ex H H') (l : y = true → x = true) (h : SqLx K x H a xs) : SqLx K y H' a xs := by
  cases y with
  | true => rw [l rfl] at h; exact e _ _ h
  | false => exact ex_sql e h.any
theorem ex_sqtx {K : PySem.W.Frag} {x y : Bool} {H H' : Hp} {a : Addr} {xs : List V} (e : Ex H H') (l : y = true → x = true) (h : SqTx K x H a xs) : SqTx K y H' a xs := by
  cases y with
  | true => rw [l rfl] at h; exact e _ _ h
  | false => exact ex_sqt e h.any
theorem ex_dqk {x : Bool} {H H' : Hp} {a : Addr} {kvs : List (Key × V)} (e : Ex H H') (h : DqK x H a kvs) : DqK x H' a kvs := by
  cases x with
  | true => exact e _ _ h
  | false => obtain ⟨o, h⟩ := h; exact ⟨o, e _ _ h⟩
theorem rd_mono {H H' : Hp} {a : Addr} {u : HO} (e : Ex H H') (h : Rd H a u) : Rd H' a u := h.imp (e _ _) fun ⟨o, q⟩ => ⟨o, e _ _ q⟩
mutual
theorem Rp.to {K : PySem.W.Frag} {x : Bool} {G G' : Hp} (e : Ex G G') : ∀ {v : V} {d : D}, Rp K x G v d → Rp K x G' v d
  | _, _, .sc h => .sc h
  | _, _, .lst h r => .lst (ex_sqlx e id h) (RpL.to e r)
  | _, _, .tup h r => .tup (ex_sqtx e id h) (RpL.to e r)
  | _, _, .dic h n r => .dic (ex_dqk e h) n (RpL.to e r)
  | _, _, .dit h n r => .dit (rd_mono e h) n (RpL.to e r)
  | _, _, .exc h => .exc (e _ _ h)
theorem RpL.to {K : PySem.W.Frag} {x : Bool} {G G' : Hp} (e : Ex G G') : ∀ {vs : List V} {ds : List D}, RpL K x G vs ds → RpL K x G' vs ds
  | _, _, .nil => .nil
  | _, _, .cons h r => .cons (Rp.to e h) (RpL.to e r)
end
section
variable {K : PySem.W.Frag} {x : Bool} {G : Hp}
theorem Rp.mono {G' : Hp} (e : Ex G G') {v : V} {d : D} (h : Rp K x G v d) : Rp K x G' v d := h.to e
theorem RpL.mono {G' : Hp} (e : Ex G G') {v : List V} {d : List D} (h : RpL K x G v d) : RpL K x G' v d := h.to e
theorem RpL.length : ∀ {vs : List V} {ds : List D}, RpL K x G vs ds → vs.length = ds.length
  | _, _, .nil => rfl
  | _, _, .cons _ r => by rw [List.length_cons, List.length_cons, r.length]
theorem RpL.get : ∀ {vs : List V} {ds : List D} {i : Nat} {d : D}, RpL K x G vs ds → ds[i]? = some d → ∃ v, vs[i]? = some v ∧ Rp K x G v d
  | _, _, _, _, .nil, h => by simp at h
  | _, _, 0, _, .cons h _, e => by simp at e; subst e; exact ⟨_, rfl, h⟩
  | _, _, i + 1, d, .cons _ r, e => by
    obtain ⟨v, h1, h2⟩ := RpL.get (i := i) (d := d) r (by simpa using e)
    exact ⟨v, by simpa using h1, h2⟩
theorem RpL.getV : ∀ {vs : List V} {ds : List D} {i : Nat} {v : V}, RpL K x G vs ds → vs[i]? = some v → ∃ d, ds[i]? = some d ∧ Rp K x G v d
  | _, _, _, _, .nil, h => by simp at h
  | _, _, 0, _, .cons h _, e => by simp at e; subst e; exact ⟨_, rfl, h⟩
  | _, _, i + 1, d, .cons _ r, e => by
    obtain ⟨v, h1, h2⟩ := RpL.getV (i := i) (v := d) r (by simpa using e)
    exact ⟨v, by simpa using h1, h2⟩
theorem RpL.append : ∀ {vs ws : List V} {ds es : List D}, RpL K x G vs ds → RpL K x G ws es → RpL K x G (vs ++ ws) (ds ++ es)
  | _, _, _, _, .nil, h => h
  | _, _, _, _, .cons h r, h2 => .cons h (RpL.append r h2)
theorem RpL.take : ∀ {vs : List V} {ds : List D} (n : Nat), RpL K x G vs ds → RpL K x G (vs.take n) (ds.take n)
  | _, _, 0, _ => .nil
  | _, _, _ + 1, .nil => .nil
  | _, _, n + 1, .cons h r => .cons h (RpL.take n r)
theorem RpL.drop : ∀ {vs : List V} {ds : List D} (n : Nat), RpL K x G vs ds → RpL K x G (vs.drop n) (ds.drop n)
  | _, _, 0, r => r
  | _, _, _ + 1, .nil => .nil
  | _, _, n + 1, .cons _ r => RpL.drop n r
theorem RpL.rev {vs : List V} {ds : List D} (h : RpL K x G vs ds) : RpL K x G vs.reverse ds.reverse := by
  induction vs generalizing ds with
  | nil => cases h; exact .nil
  | cons v vs ih => cases h with | cons h r => rw [List.reverse_cons, List.reverse_cons]; exact (ih r).append (.cons h .nil)
theorem RpL.set : ∀ {vs : List V} {ds : List D} {v : V} {d : D} (i : Nat), RpL K x G vs ds → Rp K x G v d → RpL K x G (vs.set i v) (ds.set i d)
  | _, _, _, _, _, .nil, _ => .nil
  | _, _, _, _, 0, .cons _ t, r => .cons r t
  | _, _, _, _, i + 1, .cons q t, r => .cons q (RpL.set i t r)
theorem Rp.sc_any {v : V} {d : D} (h : Rp K x G v d) (hs : d.sc = true) (y : Bool) (G' : Hp) : Rp K y G' v d := by
  cases h with
  | sc h => exact .sc h
  | lst _ _ => cases hs
  | tup _ _ => cases hs
  | dic _ _ _ => cases hs
  | dit _ _ _ => cases hs
  | exc _ => cases hs
theorem Rp.toV {v : V} {d : D} (h : Rp K x G v d) (hs : d.sc = true) : d.toV = some v := by
  cases h with
  | sc h => exact h
  | lst _ _ => cases hs
  | tup _ _ => cases hs
  | dic _ _ _ => cases hs
  | dit _ _ _ => cases hs
  | exc _ => cases hs
theorem RpL.sc_any : ∀ {vs : List V} {ds : List D}, RpL K x G vs ds → ds.all D.sc = true → ∀ (y : Bool) (G' : Hp), RpL K y G' vs ds
  | _, _, .nil, _, _, _ => .nil
  | _, _, .cons h r, hs, y, G' => by
    rw [List.all_cons, Bool.and_eq_true] at hs
    exact .cons (h.sc_any hs.1 y G') (RpL.sc_any r hs.2 y G')
theorem Rp.int_inv {v : V} {i : Int} (h : Rp K x G v (.int i)) : v = .int i := by
  have := h.toV rfl; exact (Option.some.inj this).symm
theorem Rp.bl_inv {v : V} {b : Bool} (h : Rp K x G v (.bl b)) : v = .bl b := by
  have := h.toV rfl; exact (Option.some.inj this).symm
theorem Rp.str_inv {v : V} {z : Str} (h : Rp K x G v (.str z)) : v = .str z := by
  have := h.toV rfl; exact (Option.some.inj this).symm
theorem Rp.non_inv {v : V} (h : Rp K x G v .non) : v = .non := by
  have := h.toV rfl; exact (Option.some.inj this).symm
theorem Rp.lst_inv {v : V} {ds : List D} (h : Rp K x G v (.lst ds)) : ∃ a xs, v = .ref a ∧ SqLx K x G a xs ∧ RpL K x G xs ds := by
  cases h with
  | sc h => cases h
  | lst h r => exact ⟨_, _, rfl, h, r⟩
theorem Rp.tup_inv {v : V} {ds : List D} (h : Rp K x G v (.tup ds)) : ∃ a xs, v = .ref a ∧ SqTx K x G a xs ∧ RpL K x G xs ds := by
  cases h with
  | sc h => cases h
  | tup h r => exact ⟨_, _, rfl, h, r⟩
theorem Rp.int (i : Int) : Rp K x G (.int i) (.int i) := .sc rfl
theorem Rp.bl (b : Bool) : Rp K x G (.bl b) (.bl b) := .sc rfl
theorem Rp.str (z : Str) : Rp K x G (.str z) (.str z) := .sc rfl
theorem Rp.non : Rp K x G .non .non := .sc rfl
end
mutual
inductive Own (K : PySem.W.Frag) (Hn H : Hp) : List Addr → V → D → Prop
  | leaf {v : V} {d : D} : Rp K true Hn v d → Own K Hn H [] v d
  | lst {p : Addr} {F : List Addr} {xs : List V} {ds : List D} : H p = some (.lst xs) → OwnL K Hn H F xs ds → Own K Hn H (p :: F) (.ref p) (.lst ds)
  | tup {p : Addr} {F : List Addr} {xs : List V} {ds : List D} : H p = some (.tup xs) → OwnL K Hn H F xs ds → Own K Hn H (p :: F) (.ref p) (.tup ds)
  | dic {p : Addr} {F : List Addr} {ks : List Key} {vs : List V} {ds : List D} : H p = some (.dK (ks.zip vs)) → ks.length = vs.length → OwnL K Hn H F vs ds → Own K Hn H (p :: F) (.ref p) (.dic (ks.zip ds))
  | dit {p : Addr} {F : List Addr} {ks : List (List Key)} {vs : List V} {ds : List D} : H p = some (.dT (ks.zip vs)) → ks.length = vs.length → OwnL K Hn H F vs ds → Own K Hn H (p :: F) (.ref p) (.dit (ks.zip ds))
inductive OwnL (K : PySem.W.Frag) (Hn H : Hp) : List Addr → List V → List D → Prop
  | nil : OwnL K Hn H [] [] []
  | cons {F F' : List Addr} {v : V} {vs : List V} {d : D} {ds : List D} : Own K Hn H F v d → OwnL K Hn H F' vs ds → OwnL K Hn H (F ++ F') (v :: vs) (d :: ds)
end
section
variable {K : PySem.W.Frag} {Hn Hn' H H' : Hp}
mutual
theorem Own.keep (en : Ex Hn Hn') : ∀ {F : List Addr} {v : V} {d : D}, Own K Hn H F v d → (∀ a ∈ F, ∀ o, H a = some o → H' a = some o) → Own K Hn' H' F v d
  | _, _, _, .leaf h, _ => .leaf (h.mono en)
  | _, _, _, .lst h r, e => .lst (e _ List.mem_cons_self _ h) (OwnL.keep en r fun a m => e a (List.mem_cons_of_mem _ m))
  | _, _, _, .tup h r, e => .tup (e _ List.mem_cons_self _ h) (OwnL.keep en r fun a m => e a (List.mem_cons_of_mem _ m))
  | _, _, _, .dic h l r, e => .dic (e _ List.mem_cons_self _ h) l (OwnL.keep en r fun a m => e a (List.mem_cons_of_mem _ m))
  | _, _, _, .dit h l r, e => .dit (e _ List.mem_cons_self _ h) l (OwnL.keep en r fun a m => e a (List.mem_cons_of_mem _ m))
theorem OwnL.keep (en : Ex Hn Hn') : ∀ {F : List Addr} {vs : List V} {ds : List D}, OwnL K Hn H F vs ds → (∀ a ∈ F, ∀ o, H a = some o → H' a = some o) → OwnL K Hn' H' F vs ds
  | _, _, _, .nil, _ => .nil
  | _, _, _, .cons h r, e => .cons (Own.keep en h fun a m => e a (List.mem_append_left _ m)) (OwnL.keep en r fun a m => e a (List.mem_append_right _ m))
end
theorem Own.mono (en : Ex Hn Hn') (e : Ex H H') {F : List Addr} {v : V} {d : D} (h : Own K Hn H F v d) : Own K Hn' H' F v d := h.keep en fun a _ o q => e a o q
mutual
theorem Own.dom : ∀ {F : List Addr} {v : V} {d : D}, Own K Hn H F v d → ∀ a ∈ F, H a ≠ none
  | _, _, _, .leaf _, a, m => by cases m
  | _, _, _, .lst h r, a, m => by
    rcases List.mem_cons.mp m with rfl | m
    · rw [h]; exact fun z => by cases z
    · exact OwnL.dom r a m
  | _, _, _, .tup h r, a, m => by
    rcases List.mem_cons.mp m with rfl | m
    · rw [h]; exact fun z => by cases z
    · exact OwnL.dom r a m
  | _, _, _, .dic h l r, a, m => by
    rcases List.mem_cons.mp m with rfl | m
    · rw [h]; exact fun z => by cases z
    · exact OwnL.dom r a m
  | _, _, _, .dit h l r, a, m => by
    rcases List.mem_cons.mp m with rfl | m
    · rw [h]; exact fun z => by cases z
    · exact OwnL.dom r a m
theorem OwnL.dom : ∀ {F : List Addr} {vs : List V} {ds : List D}, OwnL K Hn H F vs ds → ∀ a ∈ F, H a ≠ none
  | _, _, _, .nil, a, m => by cases m
  | _, _, _, .cons h r, a, m => by
    rcases List.mem_append.mp m with m | m
    · exact Own.dom h a m
    · exact OwnL.dom r a m
end
mutual
/-- what is owned is read, in any heap that holds its objects -/
theorem Own.rp {G : Hp} (en : Ex Hn G) : ∀ {F : List Addr} {v : V} {d : D}, Own K Hn H F v d → (∀ a ∈ F, ∀ o, H a = some o → G a = some o) → Rp K true G v d
  | _, _, _, .leaf h, _ => h.mono en
  | _, _, _, .lst h r, e => .lst (e _ List.mem_cons_self _ h) (OwnL.rp en r fun a m => e a (List.mem_cons_of_mem _ m))
  | _, _, _, .tup h r, e => .tup (e _ List.mem_cons_self _ h) (OwnL.rp en r fun a m => e a (List.mem_cons_of_mem _ m))
  | _, _, _, .dic h l r, e => .dic (e _ List.mem_cons_self _ h) l (OwnL.rp en r fun a m => e a (List.mem_cons_of_mem _ m))
  | _, _, _, .dit h l r, e => .dit (.inl (e _ List.mem_cons_self _ h)) l (OwnL.rp en r fun a m => e a (List.mem_cons_of_mem _ m))
theorem OwnL.rp {G : Hp} (en : Ex Hn G) : ∀ {F : List Addr} {vs : List V} {ds : List D}, OwnL K Hn H F vs ds → (∀ a ∈ F, ∀ o, H a = some o → G a = some o) → RpL K true G vs ds
  | _, _, _, .nil, _ => .nil
  | _, _, _, .cons h r, e => .cons (Own.rp en h fun a m => e a (List.mem_append_left _ m)) (OwnL.rp en r fun a m => e a (List.mem_append_right _ m))
end
theorem ownL_of : ∀ {vs : List V} {ds : List D}, RpL K true Hn vs ds → OwnL K Hn H [] vs ds
  | _, _, .nil => .nil
  | _, _, .cons h r => OwnL.cons (F := []) (.leaf h) (ownL_of r)
theorem OwnL.leafs : ∀ {F : List Addr} {vs : List V} {ds : List D}, OwnL K Hn H F vs ds → F = [] → RpL K true Hn vs ds
  | _, _, _, .nil, _ => .nil
  | _, _, _, .cons (F := F1) h r, e => by
    obtain ⟨e1, e2⟩ := List.append_eq_nil_iff.mp e
    subst e1
    cases h with
    | leaf h => exact .cons h (OwnL.leafs r e2)
end
end MV
namespace MV
open PySem L2
abbrev PEnv := List (Option D)
inductive Res (α : Type) where
  | ok (a : α) (e : PEnv)
  | ex (c : Str) (e : PEnv)
  | stuck
abbrev M (α : Type) := PEnv → Res α
def bnd {α β : Type} (m : M α) (k : α → M β) : M β := fun e => match m e with
  | .ok a e' => k a e'
  | .ex c e' => .ex c e'
  | .stuck => .stuck
def ret {α : Type} (a : α) : M α := fun e => .ok a e
def lift {α : Type} (o : Option α) : M α := fun e => match o with
  | some a => .ok a e
  | none => .stuck
def fail {α : Type} : M α := fun _ => .stuck
inductive FR where
  | ok (d : D) (io : D)
  | ex (c : Str) (io : D)
  | stuck
inductive Fl where
  | nx
  | rt (d : D)
  | bk
  | ct
def envOf (n : Nat) (ds : List D) : PEnv := ds.map some ++ List.replicate (n - ds.length) none
def ioOf (e : PEnv) : D := match e with
  | some d :: _ => d
  | _ => .non
def runF (n : Nat) (g : M Fl) : List D → FR := fun ds => match g (envOf n ds) with
  | .ok (.rt d) e => .ok d (ioOf e)
  | .ok .nx e => .ok .non (ioOf e)
  | .ex c e => .ex c (ioOf e)
  | _ => .stuck
inductive Kd where
  | S | N | M | W | Q | P
  deriving DecidableEq
structure Cf where
  K : PySem.W.Frag
  kd : Nat → Kd
  cv : Str → Value
structure Rs where
  H0 : Hp
  io : Option Addr
def emp : Hp := fun _ => none
def TH (G : Hp) : Hp := fun a => match G a with
  | some (.tup xs) => some (.tup xs)
  | _ => none
theorem th_some {G : Hp} {a : Addr} {o : HO} (h : TH G a = some o) : ∃ xs, o = .tup xs ∧ G a = some (.tup xs) := by
  unfold TH at h
  split at h
  · rename_i xs q; cases h; exact ⟨xs, rfl, q⟩
  · cases h
theorem th_tup {G : Hp} {a : Addr} {xs : List V} (h : G a = some (.tup xs)) : TH G a = some (.tup xs) := by unfold TH; rw [h]
theorem th_mono {G G' : Hp} (e : Ex G G') : Ex (TH G) (TH G') := fun a o h => by
  obtain ⟨xs, rfl, q⟩ := th_some h
  exact th_tup (e _ _ q)
def SlotR (K : PySem.W.Frag) (R : Rs) (Hs H : Hp) (F : List Addr) : Kd → V → D → Prop
  | .Q, v, d => Rp K false Hs v d
  | .S, v, d => Rp K true Hs v d
  | .P, v, d => Own K (TH (rs Hs R.H0)) H F v d
  | .N, v, d => Rp K true (rs Hs R.H0) v d
  | .M, v, d => Own K (rs Hs R.H0) H F v d ∧ (F = [] → d.sc = true) ∧ F.length ≤ 1
  | .W, v, d => ∃ p xs ds, v = .ref p ∧ d = .lst ds ∧ F = [p] ∧ H p = some (.lst xs) ∧ ds.all D.sc = true ∧ RpL K true emp xs ds
structure Rel (cf : Cf) (R : Rs) (Hs : Hp) (env : PEnv) (σ : L2.St) (H : Hp) (F : Nat → List Addr) (wf : List Addr) : Prop where
  len : env.length = σ.length
  exs : Ex Hs H
  ex0 : ∀ a o, R.H0 a = some o → R.io ≠ some a → Hs a = some o
  dom0 : ∀ a, R.H0 a ≠ none → H a ≠ none
  slot : ∀ i d, env[i]? = some (some d) → ∃ v, σ[i]? = some (some v) ∧ SlotR cf.K R Hs H (F i) (cf.kd i) v d
  nod : ∀ i, (F i).Nodup
  dis : ∀ i j, i ≠ j → ∀ a, a ∈ F i → a ∉ F j
  fdom : ∀ i a, a ∈ F i → H a ≠ none
  uns : ∀ i a, a ∈ F i → Hs a = none
  new : ∀ i a, a ∈ F i → R.io = some a ∨ R.H0 a = none
  volw : ∀ i, cf.kd i = .W → ∀ a, a ∈ F i → a ∈ wf
  volb : ∀ i, cf.kd i ≠ .W → ∀ a, a ∈ F i → a ∉ wf
  wdom : ∀ a, a ∈ wf → H a ≠ none ∧ Hs a = none
  ior : ∀ p, R.io = some p → σ[0]? = some (some (.ref p)) ∧ F 0 = [p] ∧ cf.kd 0 = .W ∧ ∃ d, env[0]? = some (some d)
inductive Cls where
  | V | N | S | L | B
def rg (c : Cls) (H0 Hs Hst H : Hp) (wf : List Addr) : Hp := match c with
  | .V => rs Hs Hst
  | .N => rs Hs H0
  | .S => Hs
  | .L => rs (rm H wf) H0
  | .B => rm H wf
structure Stp (cf : Cf) (wf : List Addr) (env : PEnv) (Hs H : Hp) (env' : PEnv) (Hs' H' : Hp) : Prop where
  dom : ∀ a, H a ≠ none → H' a ≠ none
  ex : Ex Hs Hs'
  keep : ∀ a o, a ∉ wf → H a = some o → H' a = some o
  same : ∀ a, H a ≠ none → Hs' a = Hs a
  kp : ∀ i, cf.kd i ≠ .W → env'[i]? = env[i]?
section
variable {cf : Cf} {wf : List Addr} {env env1 env2 : PEnv} {Hs H Hs1 H1 Hs2 H2 H' : Hp}
theorem Stp.refl : Stp cf wf env Hs H env Hs H := ⟨fun _ h => h, Ex.refl _, fun _ _ _ h => h, fun _ _ => rfl, fun _ _ => rfl⟩
theorem Stp.trans (a : Stp cf wf env Hs H env1 Hs1 H1) (b : Stp cf wf env1 Hs1 H1 env2 Hs2 H2) : Stp cf wf env Hs H env2 Hs2 H2 :=
  ⟨fun x h => b.dom x (a.dom x h), a.ex.trans b.ex, fun x o hw h => b.keep x o hw (a.keep x o hw h), fun x h => (b.same x (a.dom x h)).trans (a.same x h), fun i h => (b.kp i h).trans (a.kp i h)⟩
theorem Stp.grow (e : Ex Hs H) (x : Ex H H') : Stp cf wf env Hs H env (grow Hs H H') H' :=
  ⟨fun a h => x.dom h, Ex.grow e x, fun a o _ h => x a o h, fun a h => by
    cases q : H a with
    | none => exact absurd q h
    | some o => exact grow_some q, fun _ _ => rfl⟩
end
theorem rg_step {c : Cls} {H0 Hs Hst H Hs' H' : Hp} {wf : List Addr} {cf : Cf} {env env' : PEnv} (s : Stp cf wf env Hs H env' Hs' H') : Ex (rg c H0 Hs Hst H wf) (rg c H0 Hs' Hst H' wf) := by
  have hb : Ex (rm H wf) (rm H' wf) := fun a o h => by
    unfold rm at h ⊢
    split at h
    · cases h
    · rename_i hw; rw [if_neg hw]; exact s.keep a o hw h
  cases c with
  | V => exact rs_mono s.ex
  | N => exact rs_mono s.ex
  | S => exact s.ex
  | L => exact rs_mono hb
  | B => exact hb
theorem rg_start {c : Cls} {H0 Hs Hst Hst' H : Hp} {wf : List Addr} (d : ∀ a, Hst a ≠ none → Hst' a ≠ none) : Ex (rg c H0 Hs Hst' H wf) (rg c H0 Hs Hst H wf) := by
  cases c with
  | V =>
    intro a o h
    have h : rs Hs Hst' a = some o := h
    show rs Hs Hst a = some o
    cases q : Hst a with
    | none =>
      rw [rs_none q]
      exact rs_sub _ _ a o h
    | some u =>
      have : Hst' a ≠ none := d a (by rw [q]; exact fun z => by cases z)
      cases q' : Hst' a with
      | none => exact absurd q' this
      | some u' => rw [rs_some q'] at h; cases h
  | N => exact Ex.refl _
  | S => exact Ex.refl _
  | L => exact Ex.refl _
  | B => exact Ex.refl _
theorem rg_sub {c : Cls} {H0 Hs Hst H : Hp} {wf : List Addr} (e : Ex Hs H) : Ex (rg c H0 Hs Hst H wf) H := by
  cases c with
  | V => exact (rs_sub _ _).trans e
  | N => exact (rs_sub _ _).trans e
  | S => exact e
  | L => exact (rs_sub _ _).trans (rm_sub _ _)
  | B => exact rm_sub _ _
theorem rg_grow {c : Cls} {H0 Hs Hst H H' : Hp} {wf : List Addr} (d0 : ∀ a, H0 a ≠ none → H a ≠ none) (ds : ∀ a, Hst a ≠ none → H a ≠ none) (dw : ∀ a, a ∈ wf → H a ≠ none) (es : Ex Hs H) (x : Ex H H') :
    Ex (grow (rg c H0 Hs Hst H wf) H H') (rg c H0 (grow Hs H H') Hst H' wf) := by
  intro a o h
  cases q : H a with
  | none =>
    rw [grow_none q] at h
    have h0 : H0 a = none := by
      cases z : H0 a with
      | none => rfl
      | some u => exact absurd q (d0 a (by rw [z]; exact fun y => by cases y))
    have hs : Hst a = none := by
      cases z : Hst a with
      | none => rfl
      | some u => exact absurd q (ds a (by rw [z]; exact fun y => by cases y))
    have hw : a ∉ wf := fun m => dw a m q
    cases c with
    | V => show rs (grow Hs H H') Hst a = some o; rw [rs_none hs, grow_none q]; exact h
    | N => show rs (grow Hs H H') H0 a = some o; rw [rs_none h0, grow_none q]; exact h
    | S => show grow Hs H H' a = some o; rw [grow_none q]; exact h
    | L => show rs (rm H' wf) H0 a = some o; rw [rs_none h0]; unfold rm; rw [if_neg hw]; exact h
    | B => show rm H' wf a = some o; unfold rm; rw [if_neg hw]; exact h
  | some u =>
    rw [grow_some q] at h
    exact rg_step (cf := ⟨default, fun _ => .S, fun _ => .none⟩) (env := []) (Stp.grow es x) a o h
inductive Cls.Le : Cls → Cls → Prop
  | rfl (c) : Cls.Le c c
  | vn : Cls.Le .V .N
  | vs : Cls.Le .V .S
  | vl : Cls.Le .V .L
  | vb : Cls.Le .V .B
  | ns : Cls.Le .N .S
  | nl : Cls.Le .N .L
  | nb : Cls.Le .N .B
  | sb : Cls.Le .S .B
  | lb : Cls.Le .L .B
theorem rg_le {c c' : Cls} (l : Cls.Le c c') {H0 Hs Hst H : Hp} {wf : List Addr} (es : Ex Hs H) (d0 : ∀ a, H0 a ≠ none → Hst a ≠ none) (w : ∀ a, a ∈ wf → Hs a = none) : Ex (rg c H0 Hs Hst H wf) (rg c' H0 Hs Hst H wf) := by
  have sb : Ex Hs (rm H wf) := fun a o h => by
    unfold rm
    rw [if_neg (fun m => by rw [w a m] at h; cases h)]
    exact es a o h
  have vn : Ex (rs Hs Hst) (rs Hs H0) := fun a o h => by
    cases q : H0 a with
    | none => rw [rs_none q]; exact rs_sub _ _ a o h
    | some u =>
      have : Hst a ≠ none := d0 a (by rw [q]; exact fun y => by cases y)
      cases q' : Hst a with
      | none => exact absurd q' this
      | some u' => rw [rs_some q'] at h; cases h
  have nl : Ex (rs Hs H0) (rs (rm H wf) H0) := rs_mono sb
  cases l with
  | rfl => exact Ex.refl _
  | vn => exact vn
  | vs => exact vn.trans (rs_sub _ _)
  | vl => exact vn.trans nl
  | vb => exact (vn.trans nl).trans (rs_sub _ _)
  | ns => exact rs_sub _ _
  | nl => exact nl
  | nb => exact nl.trans (rs_sub _ _)
  | sb => exact sb
  | lb => exact rs_sub _ _
section
variable {cf : Cf} {R : Rs} {Hs H H' : Hp} {env : PEnv} {σ : L2.St} {F : Nat → List Addr} {wf : List Addr}
theorem Rel.grow (r : Rel cf R Hs env σ H F wf) (x : Ex H H') : Rel cf R (grow Hs H H') env σ H' F wf where
  len := r.len
  exs := grow_sub r.exs x
  ex0 := fun a o h n => (Ex.grow r.exs x) a o (r.ex0 a o h n)
  dom0 := fun a h => x.dom (r.dom0 a h)
  slot := fun i d h => by
    obtain ⟨v, h1, h2⟩ := r.slot i d h
    refine ⟨v, h1, ?_⟩
    cases q : cf.kd i with
    | S => rw [q] at h2; exact Rp.mono (Ex.grow r.exs x) h2
    | Q => rw [q] at h2; exact Rp.mono (Ex.grow r.exs x) h2
    | P => rw [q] at h2; exact Own.mono (th_mono (rs_mono (Ex.grow r.exs x))) x h2
    | N => rw [q] at h2; exact Rp.mono (rs_mono (Ex.grow r.exs x)) h2
    | M => rw [q] at h2; exact ⟨Own.mono (rs_mono (Ex.grow r.exs x)) x h2.1, h2.2⟩
    | W =>
      rw [q] at h2
      obtain ⟨p, xs, ds, e1, e2, e3, e4, e5⟩ := h2
      exact ⟨p, xs, ds, e1, e2, e3, x _ _ e4, e5⟩
  nod := r.nod
  dis := r.dis
  fdom := fun i a h => x.dom (r.fdom i a h)
  uns := fun i a h => by
    have hd := r.fdom i a h
    cases q : H a with
    | none => exact absurd q hd
    | some o => rw [grow_some q]; exact r.uns i a h
  new := r.new
  volw := r.volw
  volb := r.volb
  wdom := fun a h => by
    obtain ⟨h1, h2⟩ := r.wdom a h
    refine ⟨x.dom h1, ?_⟩
    cases q : H a with
    | none => exact absurd q h1
    | some o => rw [grow_some q]; exact h2
  ior := r.ior
end
def Nr (K : PySem.W.Frag) (n : Bool) (Hst Hs' : Hp) (v : V) (d : D) : Prop := n = true → d.flat = true → Rp K true (rs Hs' Hst) v d
def Sd (cf : Cf) (W : WX) (c : Cls) (n : Bool) (te : TE) (f : M D) : Prop :=
  ∀ (R : Rs) (Hs : Hp) (env : PEnv) (σ : L2.St) (H : Hp) (F : Nat → List Addr) (wf : List Addr), Rel cf R Hs env σ H F wf → ∀ Q : VK,
    match f env with
    | .ok d env' => (∀ v Hs' H', Stp cf wf env Hs H env' Hs' H' → Rel cf R Hs' env' σ H' F wf → Rp cf.K true (rg c R.H0 Hs' H H' wf) v d → Nr cf.K n H Hs' v d → Q v H') → te σ H Q
    | .ex x env' => (∀ Hs' H', Stp cf wf env Hs H env' Hs' H' → Rel cf R Hs' env' σ H' F wf → W (cf.cv x) none σ H') → te σ H Q
    | .stuck => True
def SdT (cf : Cf) (W : WX) (tt : TT) (f : M Bool) : Prop :=
  ∀ (R : Rs) (Hs : Hp) (env : PEnv) (σ : L2.St) (H : Hp) (F : Nat → List Addr) (wf : List Addr), Rel cf R Hs env σ H F wf → ∀ Q : Bool → Hp → Prop,
    match f env with
    | .ok b env' => (∀ Hs' H', Stp cf wf env Hs H env' Hs' H' → Rel cf R Hs' env' σ H' F wf → Q b H') → tt σ H Q
    | .ex x env' => (∀ Hs' H', Stp cf wf env Hs H env' Hs' H' → Rel cf R Hs' env' σ H' F wf → W (cf.cv x) none σ H') → tt σ H Q
    | .stuck => True
def SdA (cf : Cf) (W : WX) (c : Cls) (ta : TA) (f : M (List D)) : Prop :=
  ∀ (R : Rs) (Hs : Hp) (env : PEnv) (σ : L2.St) (H : Hp) (F : Nat → List Addr) (wf : List Addr), Rel cf R Hs env σ H F wf → ∀ Q : List V → Hp → Prop,
    match f env with
    | .ok ds env' => (∀ vs Hs' H', Stp cf wf env Hs H env' Hs' H' → Rel cf R Hs' env' σ H' F wf → RpL cf.K true (rg c R.H0 Hs' H H' wf) vs ds → Q vs H') → ta σ H Q
    | .ex x env' => (∀ Hs' H', Stp cf wf env Hs H env' Hs' H' → Rel cf R Hs' env' σ H' F wf → W (cf.cv x) none σ H') → ta σ H Q
    | .stuck => True
def Post (cf : Cf) (W : WX) (R : Rs) (Hs : Hp) (D : Ends) : Res Fl → Prop
  | .ok .nx env' => ∀ Hs' σ' H' F' wf', Ex Hs Hs' → Rel cf R Hs' env' σ' H' F' wf' → D.nx σ' H'
  | .ok (.rt d) env' => ∀ v Hs' σ' H' F' wf', Ex Hs Hs' → Rel cf R Hs' env' σ' H' F' wf' → Rp cf.K true (rs (rm H' wf') R.H0) v d → D.rt v H'
  | .ok .bk env' => ∀ Hs' σ' H' F' wf', Ex Hs Hs' → Rel cf R Hs' env' σ' H' F' wf' → D.bk σ' H'
  | .ok .ct env' => ∀ Hs' σ' H' F' wf', Ex Hs Hs' → Rel cf R Hs' env' σ' H' F' wf' → D.ct σ' H'
  | .ex x env' => ∀ Hs' σ' H' F' wf', Ex Hs Hs' → Rel cf R Hs' env' σ' H' F' wf' → W (cf.cv x) none σ' H'
  | .stuck => False
def SdS (cf : Cf) (W : WX) (ts : TS) (g : M Fl) : Prop :=
  ∀ (R : Rs) (Hs : Hp) (env : PEnv) (σ : L2.St) (H : Hp) (F : Nat → List Addr) (wf : List Addr), Rel cf R Hs env σ H F wf → ∀ D : Ends, Post cf W R Hs D (g env) → ts D σ H
structure SE (X : Cx) (cf : Cf) (W : WX) (c : Cls) (n : Bool) (e : Expr) (t : TE) (f : M D) : Prop where
  p : PE X e t
  s : Sd cf W c n t f
structure ST (X : Cx) (cf : Cf) (W : WX) (e : Expr) (t : TT) (f : M Bool) : Prop where
  p : PT X e t
  s : SdT cf W t f
structure SW (X : Cx) (cf : Cf) (W : WX) (e : Expr) (t : TT) (f : M Bool) : Prop where
  p : PW X e t
  s : SdT cf W t f
structure SA (X : Cx) (cf : Cf) (W : WX) (c : Cls) (es : List Expr) (t : TA) (f : M (List D)) : Prop where
  p : PA X es t
  s : SdA cf W c t f
def SS (X : Cx) (cf : Cf) (W : WX) (st : Stmt) (g : M Fl) : Prop := ∃ t, PS X st t ∧ SdS cf W t g
def SSs (X : Cx) (cf : Cf) (W : WX) (st : List Stmt) (g : M Fl) : Prop := ∃ t, PSs X st t ∧ SdS cf W t g
theorem Sd.le {cf : Cf} {W : WX} {c c' : Cls} {n : Bool} {te : TE} {f : M D} (h : Sd cf W c n te f) (l : Cls.Le c c') : Sd cf W c' n te f := by
  intro R Hs env σ H F wf r Q
  have h := h R Hs env σ H F wf r Q
  cases q : f env with
  | ok d env' =>
    rw [q] at h
    intro k
    refine h fun v Hs' H' s r' p nr => k v Hs' H' s r' (p.mono (rg_le l r'.exs r.dom0 fun a m => (r'.wdom a m).2)) nr
  | ex x env' => rw [q] at h; exact h
  | stuck => trivial
theorem SE.le {X : Cx} {cf : Cf} {W : WX} {c c' : Cls} {n : Bool} {e : Expr} {te : TE} {f : M D} (h : SE X cf W c n e te f) (l : Cls.Le c c') : SE X cf W c' n e te f := ⟨h.p, h.s.le l⟩
theorem Cls.leB (c : Cls) : Cls.Le c .B := by
  cases c with
  | V => exact .vb
  | N => exact .nb
  | S => exact .sb
  | L => exact .lb
  | B => exact .rfl _
theorem Sd.b {cf : Cf} {W : WX} {c : Cls} {n : Bool} {te : TE} {f : M D} (h : Sd cf W c n te f) : Sd cf W .B n te f := h.le (Cls.leB c)
theorem SE.b {X : Cx} {cf : Cf} {W : WX} {c : Cls} {n : Bool} {e : Expr} {te : TE} {f : M D} (h : SE X cf W c n e te f) : SE X cf W .B n e te f := h.le (Cls.leB c)
def ScF (f : M D) : Prop := ∀ env d env', f env = .ok d env' → d.sc = true
theorem Sd.low {cf : Cf} {W : WX} {c c' : Cls} {n n' : Bool} {te : TE} {f : M D} (s : Sd cf W c n te f) (hs : ScF f) : Sd cf W c' n' te f := by
  intro R Hs env σ H F wf r Q
  have h := s R Hs env σ H F wf r Q
  cases q : f env with
  | ok d env' =>
    rw [q] at h
    exact fun k => h fun v Hs' H' st r' p nr => k v Hs' H' st r' (p.sc_any (hs _ _ _ q) _ _) fun _ _ => p.sc_any (hs _ _ _ q) _ _
  | ex x env' => rw [q] at h; exact h
  | stuck => trivial
theorem SE.low {X : Cx} {cf : Cf} {W : WX} {c c' : Cls} {n n' : Bool} {e : Expr} {te : TE} {f : M D} (h : SE X cf W c n e te f) (hs : ScF f) : SE X cf W c' n' e te f := ⟨h.p, h.s.low hs⟩
def eF (f : M D) : M D := bnd f fun d => lift (if d.flat then some d else none)
theorem SE.flat {X : Cx} {cf : Cf} {W : WX} {c : Cls} {e : Expr} {te : TE} {f : M D} (h : SE X cf W c true e te f) : SE X cf W .V true e te (eF f) := by
  obtain ⟨p, s⟩ := h
  refine ⟨p, fun R Hs env σ H F wf r Q => ?_⟩
  have h := s R Hs env σ H F wf r Q
  cases q : f env with
  | ok d env' =>
    rw [q] at h
    cases hf : d.flat with
    | true =>
      have e1 : eF f env = .ok d env' := by simp [eF, bnd, lift, q, hf]
      rw [e1]
      exact fun k => h fun v Hs' H' st r' p nr => k v Hs' H' st r' (nr rfl hf) nr
    | false =>
      have e1 : eF f env = .stuck := by simp [eF, bnd, lift, q, hf]
      rw [e1]
      trivial
  | ex x env' =>
    rw [q] at h
    have e1 : eF f env = .ex x env' := by simp [eF, bnd, q]
    rw [e1]
    exact h
  | stuck =>
    have e1 : eF f env = .stuck := by simp [eF, bnd, q]
    rw [e1]
    trivial
end MV
namespace MV
open PySem L2
section
variable {α β : Type} {m : M α} {k : α → M β} {e e' : PEnv} {b : β} {a : α} {x : Str} {o : Option α}
theorem bnd_ok (h : bnd m k e = .ok b e') : ∃ a e1, m e = .ok a e1 ∧ k a e1 = .ok b e' := by
  unfold bnd at h
  cases q : m e with
  | ok a e1 => rw [q] at h; exact ⟨a, e1, rfl, h⟩
  | ex c e1 => rw [q] at h; cases h
  | stuck => rw [q] at h; cases h
theorem bnd_ex (h : bnd m k e = .ex x e') : m e = .ex x e' ∨ ∃ a e1, m e = .ok a e1 ∧ k a e1 = .ex x e' := by
  unfold bnd at h
  cases q : m e with
  | ok a e1 => rw [q] at h; exact .inr ⟨a, e1, rfl, h⟩
  | ex c e1 => rw [q] at h; exact .inl (show Res.ex c e1 = Res.ex x e' from by cases h; rfl)
  | stuck => rw [q] at h; cases h
theorem bnd_of_ok {e1 : PEnv} (h : m e = .ok a e1) : bnd m k e = k a e1 := by unfold bnd; rw [h]
theorem bnd_of_ex {e1 : PEnv} (h : m e = .ex x e1) : bnd m k e = .ex x e1 := by unfold bnd; rw [h]
theorem bnd_of_stuck (h : m e = .stuck) : bnd m k e = .stuck := by unfold bnd; rw [h]
theorem lift_ok (h : lift o e = .ok a e') : o = some a ∧ e' = e := by
  unfold lift at h
  cases o with
  | none => cases h
  | some z => cases h; exact ⟨rfl, rfl⟩
theorem lift_ex (h : lift o e = .ex x e') : False := by
  unfold lift at h
  cases o with
  | none => cases h
  | some z => cases h
end
section
variable {cf : Cf} {W : WX} {c : Cls} {n : Bool} {te : TE} {f : M D} {R : Rs} {Hs : Hp} {env env' : PEnv} {σ : L2.St} {H : Hp} {F : Nat → List Addr} {wf : List Addr}
theorem Sd.ok (s : Sd cf W c n te f) (r : Rel cf R Hs env σ H F wf) {d : D} (q : f env = .ok d env') {Q : VK} (k : ∀ v Hs' H', Stp cf wf env Hs H env' Hs' H' → Rel cf R Hs' env' σ H' F wf → Rp cf.K true (rg c R.H0 Hs' H H' wf) v d → Nr cf.K n H Hs' v d → Q v H') : te σ H Q := by
  have h := s R Hs env σ H F wf r Q
  rw [q] at h
  exact h k
theorem Sd.exn (s : Sd cf W c n te f) (r : Rel cf R Hs env σ H F wf) {x : Str} (q : f env = .ex x env') {Q : VK} (k : ∀ Hs' H', Stp cf wf env Hs H env' Hs' H' → Rel cf R Hs' env' σ H' F wf → W (cf.cv x) none σ H') : te σ H Q := by
  have h := s R Hs env σ H F wf r Q
  rw [q] at h
  exact h k
theorem Sd.mk (h1 : ∀ R Hs env σ H F wf, Rel cf R Hs env σ H F wf → ∀ d env', f env = .ok d env' → ∀ Q : VK, (∀ v Hs' H', Stp cf wf env Hs H env' Hs' H' → Rel cf R Hs' env' σ H' F wf → Rp cf.K true (rg c R.H0 Hs' H H' wf) v d → Nr cf.K n H Hs' v d → Q v H') → te σ H Q)
    (h2 : ∀ R Hs env σ H F wf, Rel cf R Hs env σ H F wf → ∀ x env', f env = .ex x env' → ∀ Q : VK, (∀ Hs' H', Stp cf wf env Hs H env' Hs' H' → Rel cf R Hs' env' σ H' F wf → W (cf.cv x) none σ H') → te σ H Q) : Sd cf W c n te f := by
  intro R Hs env σ H F wf r Q
  cases q : f env with
  | ok d env' => exact h1 R Hs env σ H F wf r d env' q Q
  | ex x env' => exact h2 R Hs env σ H F wf r x env' q Q
  | stuck => trivial
theorem SdT.ok {tt : TT} {f : M Bool} (s : SdT cf W tt f) (r : Rel cf R Hs env σ H F wf) {d : Bool} (q : f env = .ok d env') {Q : Bool → Hp → Prop} (k : ∀ Hs' H', Stp cf wf env Hs H env' Hs' H' → Rel cf R Hs' env' σ H' F wf → Q d H') : tt σ H Q := by
  have h := s R Hs env σ H F wf r Q
  rw [q] at h
  exact h k
theorem SdT.exn {tt : TT} {f : M Bool} (s : SdT cf W tt f) (r : Rel cf R Hs env σ H F wf) {x : Str} (q : f env = .ex x env') {Q : Bool → Hp → Prop} (k : ∀ Hs' H', Stp cf wf env Hs H env' Hs' H' → Rel cf R Hs' env' σ H' F wf → W (cf.cv x) none σ H') : tt σ H Q := by
  have h := s R Hs env σ H F wf r Q
  rw [q] at h
  exact h k
theorem SdT.mk {tt : TT} {f : M Bool} (h1 : ∀ R Hs env σ H F wf, Rel cf R Hs env σ H F wf → ∀ d env', f env = .ok d env' → ∀ Q : Bool → Hp → Prop, (∀ Hs' H', Stp cf wf env Hs H env' Hs' H' → Rel cf R Hs' env' σ H' F wf → Q d H') → tt σ H Q)
    (h2 : ∀ R Hs env σ H F wf, Rel cf R Hs env σ H F wf → ∀ x env', f env = .ex x env' → ∀ Q : Bool → Hp → Prop, (∀ Hs' H', Stp cf wf env Hs H env' Hs' H' → Rel cf R Hs' env' σ H' F wf → W (cf.cv x) none σ H') → tt σ H Q) : SdT cf W tt f := by
  intro R Hs env σ H F wf r Q
  cases q : f env with
  | ok d env' => exact h1 R Hs env σ H F wf r d env' q Q
  | ex x env' => exact h2 R Hs env σ H F wf r x env' q Q
  | stuck => trivial
theorem SdA.ok {ta : TA} {f : M (List D)} (s : SdA cf W c ta f) (r : Rel cf R Hs env σ H F wf) {d : List D} (q : f env = .ok d env') {Q : List V → Hp → Prop} (k : ∀ vs Hs' H', Stp cf wf env Hs H env' Hs' H' → Rel cf R Hs' env' σ H' F wf → RpL cf.K true (rg c R.H0 Hs' H H' wf) vs d → Q vs H') : ta σ H Q := by
  have h := s R Hs env σ H F wf r Q
  rw [q] at h
  exact h k
theorem SdA.exn {ta : TA} {f : M (List D)} (s : SdA cf W c ta f) (r : Rel cf R Hs env σ H F wf) {x : Str} (q : f env = .ex x env') {Q : List V → Hp → Prop} (k : ∀ Hs' H', Stp cf wf env Hs H env' Hs' H' → Rel cf R Hs' env' σ H' F wf → W (cf.cv x) none σ H') : ta σ H Q := by
  have h := s R Hs env σ H F wf r Q
  rw [q] at h
  exact h k
theorem SdA.mk {ta : TA} {f : M (List D)} (h1 : ∀ R Hs env σ H F wf, Rel cf R Hs env σ H F wf → ∀ d env', f env = .ok d env' → ∀ Q : List V → Hp → Prop, (∀ vs Hs' H', Stp cf wf env Hs H env' Hs' H' → Rel cf R Hs' env' σ H' F wf → RpL cf.K true (rg c R.H0 Hs' H H' wf) vs d → Q vs H') → ta σ H Q)
    (h2 : ∀ R Hs env σ H F wf, Rel cf R Hs env σ H F wf → ∀ x env', f env = .ex x env' → ∀ Q : List V → Hp → Prop, (∀ Hs' H', Stp cf wf env Hs H env' Hs' H' → Rel cf R Hs' env' σ H' F wf → W (cf.cv x) none σ H') → ta σ H Q) : SdA cf W c ta f := by
  intro R Hs env σ H F wf r Q
  cases q : f env with
  | ok d env' => exact h1 R Hs env σ H F wf r d env' q Q
  | ex x env' => exact h2 R Hs env σ H F wf r x env' q Q
  | stuck => trivial
end
def eV (i : Nat) : M D := fun e => match e[i]? with
  | some (some d) => .ok d e
  | _ => .stuck
def eC (d : D) : M D := fun e => .ok d e
theorem eV_ok {i : Nat} {e e' : PEnv} {d : D} (h : eV i e = .ok d e') : e[i]? = some (some d) ∧ e' = e := by
  unfold eV at h
  split at h
  · rename_i d' q; cases h; exact ⟨q, rfl⟩
  · cases h
theorem eV_ex {i : Nat} {e e' : PEnv} {x : Str} (h : eV i e = .ex x e') : False := by
  unfold eV at h
  split at h <;> cases h
section
variable {X : Cx} {cf : Cf} {W : WX}
theorem sd_var {c : Cls} {i : Nat} (hk : ∀ R Hs env σ H F wf, Rel cf R Hs env σ H F wf → ∀ v d, SlotR cf.K R Hs H (F i) (cf.kd i) v d → Rp cf.K true (rg c R.H0 Hs H H wf) v d) : Sd cf W c false (tVar i) (eV i) := by
  refine Sd.mk (fun R Hs env σ H F wf r d env' q Q k => ?_) (fun _ _ _ _ _ _ _ _ _ _ q => (eV_ex q).elim)
  obtain ⟨q, rfl⟩ := eV_ok q
  obtain ⟨v, hv, hs⟩ := r.slot i d q
  exact ⟨v, hv, k v Hs H Stp.refl r (hk R Hs env' σ H F wf r v d hs) fun z => by cases z⟩
theorem se_vS (i : Nat) {e : Expr} (p : PE X e (tVar i)) (hk : cf.kd i = .S) : SE X cf W .S false e (tVar i) (eV i) := ⟨p, sd_var fun R Hs env σ H F wf r v d h => by rw [hk] at h; exact h⟩
theorem se_vN (i : Nat) {e : Expr} (p : PE X e (tVar i)) (hk : cf.kd i = .N) : SE X cf W .N false e (tVar i) (eV i) := ⟨p, sd_var fun R Hs env σ H F wf r v d h => by rw [hk] at h; exact h⟩
theorem Rel.mL {R : Rs} {Hs : Hp} {env : PEnv} {σ : L2.St} {H : Hp} {F : Nat → List Addr} {wf : List Addr} (r : Rel cf R Hs env σ H F wf) {i : Nat} (hk : cf.kd i ≠ .W) : ∀ a ∈ F i, ∀ o, H a = some o → rs (rm H wf) R.H0 a = some o := fun a m o h => by
  have h0 : R.H0 a = none := by
    rcases r.new i a m with z | z
    · obtain ⟨_, hF, hw, _⟩ := r.ior a z
      by_cases e : i = 0
      · subst e; exact absurd hw hk
      · exact absurd (by rw [hF]; exact List.mem_singleton.mpr rfl) (r.dis i 0 e a m)
    · exact z
  rw [rs_none h0]
  unfold rm
  rw [if_neg (r.volb i hk a m)]
  exact h
theorem Rel.nL {R : Rs} {Hs : Hp} {env : PEnv} {σ : L2.St} {H : Hp} {F : Nat → List Addr} {wf : List Addr} (r : Rel cf R Hs env σ H F wf) : Ex (rs Hs R.H0) (rs (rm H wf) R.H0) :=
  rg_le (c := .N) (c' := .L) .nl (Hst := H) r.exs r.dom0 fun a m => (r.wdom a m).2
theorem se_vM (i : Nat) {e : Expr} (p : PE X e (tVar i)) (hk : cf.kd i = .M) : SE X cf W .L false e (tVar i) (eV i) := ⟨p, sd_var fun R Hs env σ H F wf r v d h => by
  rw [hk] at h
  exact Own.rp r.nL h.1 (r.mL (by rw [hk]; exact fun z => by cases z))⟩
theorem sd_C {v : V} {d : D} (h : d.toV = some v) : Sd cf W .V true (tC v) (eC d) :=
  Sd.mk (fun R Hs env σ H F wf r d' env' q Q k => by cases q; exact k v Hs H Stp.refl r (.sc h) fun _ _ => .sc h) (fun _ _ _ _ _ _ _ _ _ _ q => by cases q)
theorem se_int {i : Int} {j : Nat} {pos : Pos} : SE X cf W .V true (.Constant (.int i) j pos) (tC (.int i)) (eC (.int i)) := ⟨pe_int, sd_C rfl⟩
theorem se_bl {b : Bool} {j : Nat} {pos : Pos} : SE X cf W .V true (.Constant (.bool b) j pos) (tC (.bl b)) (eC (.bl b)) := ⟨pe_bl, sd_C rfl⟩
theorem se_non {j : Nat} {pos : Pos} : SE X cf W .V true (.Constant .none j pos) (tC .non) (eC .non) := ⟨pe_non, sd_C rfl⟩
theorem se_str {x : Str} {j : Nat} {pos : Pos} : SE X cf W .V true (.Constant (.str x) j pos) (tC (.str x)) (eC (.str x)) := ⟨pe_str, sd_C rfl⟩
theorem se_glob {e : Expr} {v : V} {d : D} (p : PE X e (tC v)) (h : d.toV = some v) : SE X cf W .V true e (tC v) (eC d) := ⟨p, sd_C h⟩
end
def e1 (g : D → Option D) (a : M D) : M D := bnd a fun x => lift (g x)
def e2 (g : D → D → Option D) (a b : M D) : M D := bnd a fun x => bnd b fun y => lift (g x y)
def eN (g : List D → Option D) (a : M (List D)) : M D := bnd a fun x => lift (g x)
def aNil : M (List D) := ret []
def aCons (a : M D) (r : M (List D)) : M (List D) := bnd a fun x => bnd r fun xs => ret (x :: xs)
def Nn (K : PySem.W.Frag) (n : Bool) (H H' : Hp) (v : V) (d : D) : Prop := n = true → d.flat = true → Rp K true (nw H H') v d
def Snd1 (K : PySem.W.Frag) (n : Bool) (r : V → Hp → VK → Prop) (g : D → Option D) : Prop := ∀ (G H : Hp) (x : V) (d1 d : D), Ex G H → Rp K true G x d1 → g d1 = some d → ∀ Q : VK, (∀ v H', Ex H H' → Rp K true (grow G H H') v d → Nn K n H H' v d → Q v H') → r x H Q
def Snd2 (K : PySem.W.Frag) (n : Bool) (r : R2) (g : D → D → Option D) : Prop := ∀ (G H : Hp) (x y : V) (d1 d2 d : D), Ex G H → Rp K true G x d1 → Rp K true G y d2 → g d1 d2 = some d → ∀ Q : VK, (∀ v H', Ex H H' → Rp K true (grow G H H') v d → Nn K n H H' v d → Q v H') → r x y H Q
def SndN (K : PySem.W.Frag) (n : Bool) (r : List V → Hp → VK → Prop) (g : List D → Option D) : Prop := ∀ (G H : Hp) (xs : List V) (ds : List D) (d : D), Ex G H → RpL K true G xs ds → g ds = some d → ∀ Q : VK, (∀ v H', Ex H H' → Rp K true (grow G H H') v d → Nn K n H H' v d → Q v H') → r xs H Q
theorem nr_of {K : PySem.W.Frag} {n : Bool} {Hst Hs H H' : Hp} {v : V} {d : D} (ds : ∀ a, Hst a ≠ none → H a ≠ none) (h : Nn K n H H' v d) : Nr K n Hst (grow Hs H H') v d := fun z hf => (h z hf).mono fun a o q => by
  cases e : H a with
  | none =>
    rw [nw_none e] at q
    have : Hst a = none := by
      cases z : Hst a with
      | none => rfl
      | some u => exact absurd e (ds a (by rw [z]; exact fun y => by cases y))
    rw [rs_none this, grow_none e]; exact q
  | some u => rw [nw_some e] at q; cases q
section
variable {X : Cx} {cf : Cf} {W : WX} {c : Cls} {n n1 n2 : Bool}
theorem fin_op {R : Rs} {Hs Hs2 : Hp} {env env2 : PEnv} {σ : L2.St} {H H2 H3 : Hp} {F : Nat → List Addr} {wf : List Addr} {v : V} {d : D} (s : Stp cf wf env Hs H env2 Hs2 H2) (r : Rel cf R Hs2 env2 σ H2 F wf) (x : Ex H2 H3) (p : Rp cf.K true (grow (rg c R.H0 Hs2 H H2 wf) H2 H3) v d) (nn : Nn cf.K n H2 H3 v d) {Q : VK}
    (k : ∀ v Hs' H', Stp cf wf env Hs H env2 Hs' H' → Rel cf R Hs' env2 σ H' F wf → Rp cf.K true (rg c R.H0 Hs' H H' wf) v d → Nr cf.K n H Hs' v d → Q v H') : Q v H3 :=
  k v (grow Hs2 H2 H3) H3 (s.trans (Stp.grow r.exs x)) (r.grow x) (p.mono (rg_grow r.dom0 s.dom (fun a m => (r.wdom a m).1) r.exs x)) (nr_of s.dom nn)
theorem sd_op1 {r : V → Hp → VK → Prop} {g : D → Option D} {ta : TE} {fa : M D} (hs : Snd1 cf.K n r g) (ha : Sd cf W c n1 ta fa) : Sd cf W c n (tUn r ta) (e1 g fa) := by
  refine Sd.mk (fun R Hs env σ H F wf r d env' q Q k => ?_) (fun R Hs env σ H F wf r x env' q Q k => ?_)
  · obtain ⟨d1, env1, q1, q⟩ := bnd_ok q
    obtain ⟨qg, rfl⟩ := lift_ok q
    exact ha.ok r q1 fun v Hs1 H1 s1 r1 p1 _ => hs _ H1 v d1 d (rg_sub r1.exs) p1 qg Q fun v2 H2 x p nn => fin_op s1 r1 x p nn k
  · rcases bnd_ex q with q | ⟨d1, env1, q1, q⟩
    · exact ha.exn r q k
    · exact (lift_ex q).elim
theorem sd_op2 {r : R2} {g : D → D → Option D} {ta tb : TE} {fa fb : M D} (hs : Snd2 cf.K n r g) (ha : Sd cf W c n1 ta fa) (hb : Sd cf W c n2 tb fb) : Sd cf W c n (tOp r ta tb) (e2 g fa fb) := by
  refine Sd.mk (fun R Hs env σ H F wf r d env' q Q k => ?_) (fun R Hs env σ H F wf r x env' q Q k => ?_)
  · obtain ⟨d1, env1, q1, q⟩ := bnd_ok q
    obtain ⟨d2, env2, q2, q⟩ := bnd_ok q
    obtain ⟨qg, rfl⟩ := lift_ok q
    exact ha.ok r q1 fun v Hs1 H1 s1 r1 p1 _ => hb.ok r1 q2 fun v2 Hs2 H2 s2 r2 p2 _ =>
      hs (rg c R.H0 Hs2 H H2 wf) H2 v v2 d1 d2 d (rg_sub r2.exs) (p1.mono (rg_step s2)) (p2.mono (rg_start s1.dom)) qg Q fun v3 H3 x p nn => fin_op (s1.trans s2) r2 x p nn k
  · rcases bnd_ex q with q | ⟨d1, env1, q1, q⟩
    · exact ha.exn r q k
    · rcases bnd_ex q with q | ⟨d2, env2, q2, q⟩
      · exact ha.ok r q1 fun v Hs1 H1 s1 r1 p1 _ => hb.exn r1 q fun Hs2 H2 s2 r2 => k Hs2 H2 (s1.trans s2) r2
      · exact (lift_ex q).elim
theorem sd_opN {r : List V → Hp → VK → Prop} {g : List D → Option D} {ta : TA} {fa : M (List D)} (hs : SndN cf.K n r g) (ha : SdA cf W c ta fa) : Sd cf W c n (tCB r ta) (eN g fa) := by
  refine Sd.mk (fun R Hs env σ H F wf r d env' q Q k => ?_) (fun R Hs env σ H F wf r x env' q Q k => ?_)
  · obtain ⟨d1, env1, q1, q⟩ := bnd_ok q
    obtain ⟨qg, rfl⟩ := lift_ok q
    exact ha.ok r q1 fun v Hs1 H1 s1 r1 p1 => hs _ H1 v d1 d (rg_sub r1.exs) p1 qg Q fun v2 H2 x p nn => fin_op s1 r1 x p nn k
  · rcases bnd_ex q with q | ⟨d1, env1, q1, q⟩
    · exact ha.exn r q k
    · exact (lift_ex q).elim
theorem sda_nil : SdA cf W c tNil aNil := SdA.mk (fun R Hs env σ H F wf r d env' q Q k => by cases q; exact k [] Hs H Stp.refl r .nil) (fun _ _ _ _ _ _ _ _ _ _ q => by cases q)
theorem sda_cons {ta : TE} {fa : M D} {tr : TA} {fr : M (List D)} (ha : Sd cf W c n1 ta fa) (hr : SdA cf W c tr fr) : SdA cf W c (tCons ta tr) (aCons fa fr) := by
  refine SdA.mk (fun R Hs env σ H F wf r d env' q Q k => ?_) (fun R Hs env σ H F wf r x env' q Q k => ?_)
  · obtain ⟨d1, env1, q1, q⟩ := bnd_ok q
    obtain ⟨d2, env2, q2, q⟩ := bnd_ok q
    cases q
    exact ha.ok r q1 fun v Hs1 H1 s1 r1 p1 _ => hr.ok r1 q2 fun v2 Hs2 H2 s2 r2 p2 => k (v :: v2) Hs2 H2 (s1.trans s2) r2 (.cons (p1.mono (rg_step s2)) (p2.mono (rg_start s1.dom)))
  · rcases bnd_ex q with q | ⟨d1, env1, q1, q⟩
    · exact ha.exn r q k
    · rcases bnd_ex q with q | ⟨d2, env2, q2, q⟩
      · exact ha.ok r q1 fun v Hs1 H1 s1 r1 p1 _ => hr.exn r1 q fun Hs2 H2 s2 r2 => k Hs2 H2 (s1.trans s2) r2
      · cases q
theorem sa_nil : SA X cf W c [] tNil aNil := ⟨pa_nil, sda_nil⟩
theorem sa_cons {e : Expr} {es : List Expr} {ta : TE} {tr : TA} {fa : M D} {fr : M (List D)} (ha : SE X cf W c n1 e ta fa) (hr : SA X cf W c es tr fr) (hs : starEach (e :: es) X.env = (false, eval e X.env) :: starEach es X.env := by rfl) : SA X cf W c (e :: es) (tCons ta tr) (aCons fa fr) := ⟨pa_cons ha.p hr.p hs, sda_cons ha.s hr.s⟩
def gLst (ds : List D) : Option D := if ds.length ≤ sizeLine then some (.lst ds) else none
def gTupD (ds : List D) : Option D := if ds.length ≤ sizeLine then some (.tup ds) else none
theorem new_rp {K : PySem.W.Frag} {G H : Hp} {p : Addr} {xs : List V} {ds : List D} (e : Ex G H) (hp : H p = none) (h : RpL K true G xs ds) : Rp K true (grow G H (upd H p (.lst xs))) (.ref p) (.lst ds) :=
  .lst (show grow G H (upd H p (.lst xs)) p = _ by rw [grow_none hp, upd_same]) (h.mono (Ex.grow e (Ex.new hp)))
theorem new_nn {K : PySem.W.Frag} {n : Bool} {G H : Hp} {p : Addr} {xs : List V} {ds : List D} (hp : H p = none) (h : RpL K true G xs ds) : Nn K n H (upd H p (.lst xs)) (.ref p) (.lst ds) := fun _ hf =>
  .lst (show nw H (upd H p (.lst xs)) p = _ by rw [nw_none hp, upd_same]) (h.sc_any hf _ _)
theorem newT_rp {K : PySem.W.Frag} {G H : Hp} {p : Addr} {xs : List V} {ds : List D} (e : Ex G H) (hp : H p = none) (h : RpL K true G xs ds) : Rp K true (grow G H (upd H p (.tup xs))) (.ref p) (.tup ds) :=
  .tup (show grow G H (upd H p (.tup xs)) p = _ by rw [grow_none hp, upd_same]) (h.mono (Ex.grow e (Ex.new hp)))
theorem newT_nn {K : PySem.W.Frag} {n : Bool} {G H : Hp} {p : Addr} {xs : List V} {ds : List D} (hp : H p = none) (h : RpL K true G xs ds) : Nn K n H (upd H p (.tup xs)) (.ref p) (.tup ds) := fun _ hf =>
  .tup (show nw H (upd H p (.tup xs)) p = _ by rw [nw_none hp, upd_same]) (h.sc_any hf _ _)
theorem snd_lst {K : PySem.W.Frag} {n : Bool} : SndN K n (fun xs H1 Q => xs.length ≤ sizeLine ∧ ∀ p, H1 p = none → Q (.ref p) (upd H1 p (.lst xs))) gLst := fun G H xs ds d e h q Q k => by
  unfold gLst at q
  split at q
  · cases q
    rename_i hl
    exact ⟨by rw [h.length]; exact hl, fun p hp => k _ _ (Ex.new hp) (new_rp e hp h) (new_nn hp h)⟩
  · cases q
theorem snd_tup {K : PySem.W.Frag} {n : Bool} : SndN K n (fun xs H1 Q => xs.length ≤ sizeLine ∧ ∀ p, H1 p = none → Q (.ref p) (upd H1 p (.tup xs))) gTupD := fun G H xs ds d e h q Q k => by
  unfold gTupD at q
  split at q
  · cases q
    rename_i hl
    exact ⟨by rw [h.length]; exact hl, fun p hp => k _ _ (Ex.new hp) (newT_rp e hp h) (newT_nn hp h)⟩
  · cases q
theorem se_lst {es : List Expr} {ta : TA} {fa : M (List D)} {pos : Pos} (h : SA X cf W c es ta fa) : SE X cf W c true (.List es pos) (tLst ta) (eN gLst fa) := by
  obtain ⟨p, s⟩ := h
  exact ⟨pe_lst p, sd_opN (r := fun xs H1 Q => xs.length ≤ sizeLine ∧ ∀ p, H1 p = none → Q (.ref p) (upd H1 p (.lst xs))) snd_lst s⟩
theorem se_tup {es : List Expr} {ta : TA} {fa : M (List D)} {x1 : Nat} {pos : Pos} (h : SA X cf W c es ta fa) : SE X cf W c true (.Tuple es x1 pos) (tTup ta) (eN gTupD fa) := by
  obtain ⟨p, s⟩ := h
  exact ⟨pe_tup p, sd_opN (r := fun xs H1 Q => xs.length ≤ sizeLine ∧ ∀ p, H1 p = none → Q (.ref p) (upd H1 p (.tup xs))) snd_tup s⟩
theorem se_bin {op : Operator} {r : R2} {g : D → D → Option D} {a b : Expr} {ta tb : TE} {fa fb : M D} {pos : Pos} (ho : OpR X (binaryOp op) r) (hs : Snd2 cf.K n r g) (ha : SE X cf W c n1 a ta fa) (hb : SE X cf W c n2 b tb fb) : SE X cf W c n (.BinOp a op b pos) (tOp r ta tb) (e2 g fa fb) := ⟨pe_op ho ha.p hb.p, sd_op2 hs ha.s hb.s⟩
theorem se_una {op : UnaryOp} {r : V → Hp → VK → Prop} {g : D → Option D} {a : Expr} {ta : TE} {fa : M D} {pos : Pos} (ho : UnR X (unaryOp op) r) (hs : Snd1 cf.K n r g) (ha : SE X cf W c n1 a ta fa) : SE X cf W c n (.UnaryOp op a pos) (tUn r ta) (e1 g fa) := ⟨pe_un ho ha.p, sd_op1 hs ha.s⟩
theorem se_cmp {op : CmpOp} {r : R2} {g : D → D → Option D} {a b : Expr} {ta tb : TE} {fa fb : M D} {pos : Pos} (ho : OpR X (compareOp op) r) (hs : Snd2 cf.K n r g) (ha : SE X cf W c n1 a ta fa) (hb : SE X cf W c n2 b tb fb) (hm : behindInMarks op b = false) : SE X cf W c n (.Compare a [op] [b] pos) (tOp r ta tb) (e2 g fa fb) := ⟨pe_cmpR ho ha.p hb.p hm, sd_op2 hs ha.s hb.s⟩
def asB (d : D) : Option Bool := match d with
  | .bl b => some b
  | _ => none
def tB (f : M D) : M Bool := bnd f fun d => lift (asB d)
theorem asB_some {d : D} {b : Bool} (h : asB d = some b) : d = .bl b := by
  unfold asB at h
  split at h
  · cases h; rfl
  · cases h
theorem sdt_test {te : TE} {f : M D} (h : Sd cf W c n te f) : SdT cf W (tTest te) (tB f) := by
  refine SdT.mk (fun R Hs env σ H F wf r d env' q Q k => ?_) (fun R Hs env σ H F wf r x env' q Q k => ?_)
  · obtain ⟨d1, env1, q1, q⟩ := bnd_ok q
    obtain ⟨qg, rfl⟩ := lift_ok q
    cases asB_some qg
    exact h.ok r q1 fun v Hs1 H1 s1 r1 p1 _ => ⟨d, p1.bl_inv, k Hs1 H1 s1 r1⟩
  · rcases bnd_ex q with q | ⟨d1, env1, q1, q⟩
    · exact h.exn r q k
    · exact (lift_ex q).elim
theorem st_cmp {op : CmpOp} {r : R2} {g : D → D → Option D} {a b : Expr} {ta tb : TE} {fa fb : M D} {pos : Pos} (ho : OpR X (compareOp op) r) (hs : Snd2 cf.K n r g) (ha : SE X cf W c n1 a ta fa) (hb : SE X cf W c n2 b tb fb) (hm : behindInMarks op b = false) : ST X cf W (.Compare a [op] [b] pos) (tTest (tOp r ta tb)) (tB (e2 g fa fb)) := ⟨pt_cmpR ho ha.p hb.p hm, sdt_test (sd_op2 hs ha.s hb.s)⟩
theorem st_val {e : Expr} {te : TE} {f : M D} (h : SE X cf W c n e te f) (he : ∀ whole, isTrue e X.env whole = (do let v ← whole; standAt e.pos; holding [v] (truthy v)) := by intro _; rfl) : ST X cf W e (L2.tB te) (tB f) := ⟨pt_val h.p he, sdt_test h.s⟩
def tAnd2 (a b : M Bool) : M Bool := bnd a fun x => if x then b else ret false
def tOr2 (a b : M Bool) : M Bool := bnd a fun x => if x then ret true else b
def tNot1 (a : M Bool) : M Bool := bnd a fun x => ret (!x)
theorem sdt_and {ta tb : TT} {fa fb : M Bool} (ha : SdT cf W ta fa) (hb : SdT cf W tb fb) : SdT cf W (tAnd ta tb) (tAnd2 fa fb) := by
  refine SdT.mk (fun R Hs env σ H F wf r d env' q Q k => ?_) (fun R Hs env σ H F wf r x env' q Q k => ?_)
  · obtain ⟨d1, env1, q1, q⟩ := bnd_ok q
    refine ha.ok r q1 fun Hs1 H1 s1 r1 => ?_
    cases d1 with
    | true => exact hb.ok r1 q fun Hs2 H2 s2 r2 => k Hs2 H2 (s1.trans s2) r2
    | false => cases q; exact k Hs1 H1 s1 r1
  · rcases bnd_ex q with q | ⟨d1, env1, q1, q⟩
    · exact ha.exn r q k
    · refine ha.ok r q1 fun Hs1 H1 s1 r1 => ?_
      cases d1 with
      | true => exact hb.exn r1 q fun Hs2 H2 s2 r2 => k Hs2 H2 (s1.trans s2) r2
      | false => cases q
theorem sdt_or {ta tb : TT} {fa fb : M Bool} (ha : SdT cf W ta fa) (hb : SdT cf W tb fb) : SdT cf W (tOr ta tb) (tOr2 fa fb) := by
  refine SdT.mk (fun R Hs env σ H F wf r d env' q Q k => ?_) (fun R Hs env σ H F wf r x env' q Q k => ?_)
  · obtain ⟨d1, env1, q1, q⟩ := bnd_ok q
    refine ha.ok r q1 fun Hs1 H1 s1 r1 => ?_
    cases d1 with
    | false => exact hb.ok r1 q fun Hs2 H2 s2 r2 => k Hs2 H2 (s1.trans s2) r2
    | true => cases q; exact k Hs1 H1 s1 r1
  · rcases bnd_ex q with q | ⟨d1, env1, q1, q⟩
    · exact ha.exn r q k
    · refine ha.ok r q1 fun Hs1 H1 s1 r1 => ?_
      cases d1 with
      | false => exact hb.exn r1 q fun Hs2 H2 s2 r2 => k Hs2 H2 (s1.trans s2) r2
      | true => cases q
theorem sdt_not {ta : TT} {fa : M Bool} (ha : SdT cf W ta fa) : SdT cf W (tNot ta) (tNot1 fa) := by
  refine SdT.mk (fun R Hs env σ H F wf r d env' q Q k => ?_) (fun R Hs env σ H F wf r x env' q Q k => ?_)
  · obtain ⟨d1, env1, q1, q⟩ := bnd_ok q
    cases q
    exact ha.ok r q1 k
  · rcases bnd_ex q with q | ⟨d1, env1, q1, q⟩
    · exact ha.exn r q k
    · cases q
theorem sw_and1 {a : Expr} {ta : TT} {fa : M Bool} {pos : Pos} (h : ST X cf W a ta fa) : SW X cf W (.BoolOp .And [a] pos) ta fa := ⟨pw_and1 h.p, h.s⟩
theorem sw_or1 {a : Expr} {ta : TT} {fa : M Bool} {pos : Pos} (h : ST X cf W a ta fa) : SW X cf W (.BoolOp .Or [a] pos) ta fa := ⟨pw_or1 h.p, h.s⟩
theorem sw_and {a b : Expr} {rest : List Expr} {ta tb : TT} {fa fb : M Bool} {pos : Pos} (h : ST X cf W a ta fa) (h2 : SW X cf W (.BoolOp .And (b :: rest) pos) tb fb) : SW X cf W (.BoolOp .And (a :: b :: rest) pos) (tAnd ta tb) (tAnd2 fa fb) := ⟨pw_and h.p h2.p, sdt_and h.s h2.s⟩
theorem sw_or {a b : Expr} {rest : List Expr} {ta tb : TT} {fa fb : M Bool} {pos : Pos} (h : ST X cf W a ta fa) (h2 : SW X cf W (.BoolOp .Or (b :: rest) pos) tb fb) : SW X cf W (.BoolOp .Or (a :: b :: rest) pos) (tOr ta tb) (tOr2 fa fb) := ⟨pw_or h.p h2.p, sdt_or h.s h2.s⟩
theorem SW.st {e : Expr} {ta : TT} {f : M Bool} (h : SW X cf W e ta f) : ST X cf W e ta f := ⟨h.p.pt, h.s⟩
theorem st_not {a : Expr} {ta : TT} {fa : M Bool} {pos : Pos} (h : ST X cf W a ta fa) : ST X cf W (.UnaryOp .Not a pos) (tNot ta) (tNot1 fa) := ⟨pt_not h.p, sdt_not h.s⟩
def eAndV (a b : M D) : M D := bnd a fun x => bnd (lift (asB x)) fun k => if k then b else ret (.bl false)
def eOrV (a b : M D) : M D := bnd a fun x => bnd (lift (asB x)) fun k => if k then ret (.bl true) else b
def eNotV (a : M D) : M D := bnd a fun x => bnd (lift (asB x)) fun k => ret (.bl (!k))
def eIfE (t : M Bool) (a b : M D) : M D := bnd t fun k => if k then a else b
theorem sd_andV {ta tb : TE} {fa fb : M D} (ha : Sd cf W c n1 ta fa) (hb : Sd cf W c n2 tb fb) : Sd cf W c n2 (tAndV ta tb) (eAndV fa fb) := by
  refine Sd.mk (fun R Hs env σ H F wf r d env' q Q k => ?_) (fun R Hs env σ H F wf r x env' q Q k => ?_)
  · obtain ⟨d1, env1, q1, q⟩ := bnd_ok q
    obtain ⟨b, env2, q2, q⟩ := bnd_ok q
    obtain ⟨qb, rfl⟩ := lift_ok q2
    cases asB_some qb
    refine ha.ok r q1 fun v Hs1 H1 s1 r1 p1 _ => ⟨b, p1.bl_inv, ?_⟩
    cases b with
    | true => exact hb.ok r1 q fun v2 Hs2 H2 s2 r2 p2 nr => k v2 Hs2 H2 (s1.trans s2) r2 (p2.mono (rg_start s1.dom)) fun z hf => (nr z hf).mono (rg_start (c := .V) (H0 := R.H0) (H := H2) (wf := wf) s1.dom)
    | false => cases q; exact k _ Hs1 H1 s1 r1 (.bl false) fun _ _ => .bl false
  · rcases bnd_ex q with q | ⟨d1, env1, q1, q⟩
    · exact ha.exn r q k
    · rcases bnd_ex q with q | ⟨b, env2, q2, q⟩
      · exact (lift_ex q).elim
      · obtain ⟨qb, rfl⟩ := lift_ok q2
        cases asB_some qb
        refine ha.ok r q1 fun v Hs1 H1 s1 r1 p1 _ => ⟨b, p1.bl_inv, ?_⟩
        cases b with
        | true => exact hb.exn r1 q fun Hs2 H2 s2 r2 => k Hs2 H2 (s1.trans s2) r2
        | false => cases q
theorem sd_ifE {tt : TT} {ta tb : TE} {ft : M Bool} {fa fb : M D} (ht : SdT cf W tt ft) (ha : Sd cf W c n ta fa) (hb : Sd cf W c n tb fb) : Sd cf W c n (tIf tt ta tb) (eIfE ft fa fb) := by
  refine Sd.mk (fun R Hs env σ H F wf r d env' q Q k => ?_) (fun R Hs env σ H F wf r x env' q Q k => ?_)
  · obtain ⟨b, env1, q1, q⟩ := bnd_ok q
    refine ht.ok r q1 fun Hs1 H1 s1 r1 => ?_
    cases b with
    | true => exact ha.ok r1 q fun v2 Hs2 H2 s2 r2 p2 nr => k v2 Hs2 H2 (s1.trans s2) r2 (p2.mono (rg_start s1.dom)) fun z hf => (nr z hf).mono (rg_start (c := .V) (H0 := R.H0) (H := H2) (wf := wf) s1.dom)
    | false => exact hb.ok r1 q fun v2 Hs2 H2 s2 r2 p2 nr => k v2 Hs2 H2 (s1.trans s2) r2 (p2.mono (rg_start s1.dom)) fun z hf => (nr z hf).mono (rg_start (c := .V) (H0 := R.H0) (H := H2) (wf := wf) s1.dom)
  · rcases bnd_ex q with q | ⟨b, env1, q1, q⟩
    · exact ht.exn r q k
    · refine ht.ok r q1 fun Hs1 H1 s1 r1 => ?_
      cases b with
      | true => exact ha.exn r1 q fun Hs2 H2 s2 r2 => k Hs2 H2 (s1.trans s2) r2
      | false => exact hb.exn r1 q fun Hs2 H2 s2 r2 => k Hs2 H2 (s1.trans s2) r2
theorem se_one {op} {a : Expr} {ta : TE} {fa : M D} {pos : Pos} (h : SE X cf W c n a ta fa) : SE X cf W c n (.BoolOp op [a] pos) ta fa := ⟨pe_one h.p, h.s⟩
theorem se_and {a b : Expr} {rest : List Expr} {ta tb : TE} {fa fb : M D} {pos : Pos} (h : SE X cf W c n1 a ta fa) (h2 : SE X cf W c n2 (.BoolOp .And (b :: rest) pos) tb fb) : SE X cf W c n2 (.BoolOp .And (a :: b :: rest) pos) (tAndV ta tb) (eAndV fa fb) := ⟨pe_and h.p h2.p, sd_andV h.s h2.s⟩
theorem se_ifE {t a b : Expr} {tt : TT} {ta tb : TE} {ft : M Bool} {fa fb : M D} {pos : Pos} (h : ST X cf W t tt ft) (ha : SE X cf W c n a ta fa) (hb : SE X cf W c n b tb fb) : SE X cf W c n (.IfExp t a b pos) (tIf tt ta tb) (eIfE ft fa fb) := ⟨pe_ifExp h.p ha.p hb.p, sd_ifE h.s ha.s hb.s⟩
theorem se_cb {id : String} {r : List V → Hp → VK → Prop} {g : List D → Option D} {x : Str} {e : Expr} {es : List Expr} {ta : TA} {fa : M (List D)} {p pos : Pos} (hc : CallR X (.builtin id) r) (hs : SndN cf.K n r g) (hg : Gl X x) (hm : X.mg x = none) (hv : bootBuiltins x = some (.builtin id)) (ha : SA X cf W c (e :: es) ta fa)
    (hn : x ≠ "__name__" := by decide) (hdb : (x == ("__debug__" : Str)) = false := by decide) (he : starEach (e :: es) X.env = (false, eval e X.env) :: starEach es X.env := by rfl) (hpl : (backTo pos (starEach es X.env)).any (·.1) = false := by rfl) :
    SE X cf W c n (.Call (.Name x p) (e :: es) [] pos) (tCB r ta) (eN g fa) := ⟨pe_callB hc hg hm hv ha.p hn hdb he hpl, sd_opN hs ha.s⟩
theorem se_ct {T : String} {r : List V → Hp → VK → Prop} {g : List D → Option D} {x : Str} {e : Expr} {es : List Expr} {ta : TA} {fa : M (List D)} {p pos : Pos} (hc : CallR X (.type T) r) (hs : SndN cf.K n r g) (hg : Gl X x) (hm : X.mg x = none) (hv : bootBuiltins x = some (.type T)) (ha : SA X cf W c (e :: es) ta fa)
    (hn : x ≠ "__name__" := by decide) (hdb : (x == ("__debug__" : Str)) = false := by decide) (he : starEach (e :: es) X.env = (false, eval e X.env) :: starEach es X.env := by rfl) (hpl : (backTo pos (starEach es X.env)).any (·.1) = false := by rfl) :
    SE X cf W c n (.Call (.Name x p) (e :: es) [] pos) (tCB r ta) (eN g fa) := ⟨pe_callTy hc hg hm hv ha.p hn hdb he hpl, sd_opN hs ha.s⟩
end
end MV
namespace MV
open PySem L2
abbrev LIM : Nat := 100000
theorem lim_sz {n : Nat} (h : n ≤ LIM) : n ≤ sizeLine := Nat.le_trans h (by decide)
theorem lim_lt {n : Nat} (h : n < LIM) : n < sizeLine := Nat.lt_of_lt_of_le h (by decide)
section
variable {K : PySem.W.Frag} {G H : Hp} {n : Bool} {d : D} {v : V} {Q : VK}
theorem k_sc (k : ∀ v H', Ex H H' → Rp K true (grow G H H') v d → Nn K n H H' v d → Q v H') (h : d.toV = some v) : Q v H := k v H (Ex.refl H) (.sc h) fun _ _ => .sc h
end
def gI2 (f : Int → Int → Option D) : D → D → Option D
  | .int i, .int j => f i j
  | _, _ => none
theorem gI2_some {f : Int → Int → Option D} {x y d : D} (h : gI2 f x y = some d) : ∃ i j, x = .int i ∧ y = .int j ∧ f i j = some d := by
  unfold gI2 at h
  split at h
  · exact ⟨_, _, rfl, rfl, h⟩
  · cases h
theorem snd_rI {K : PySem.W.Frag} {C : Int → Int → Prop} [∀ i j, Decidable (C i j)] {g : Int → Int → V} {g' : Int → Int → D} (hg : ∀ i j, (g' i j).toV = some (g i j)) : Snd2 K true (rI C g) (gI2 fun i j => if C i j then some (g' i j) else none) := fun G H x y d1 d2 d e h1 h2 q Q k => by
  obtain ⟨i, j, rfl, rfl, qq⟩ := gI2_some q
  split at qq
  · cases qq
    rename_i hc
    exact ⟨i, j, h1.int_inv, h2.int_inv, hc, k_sc k (hg i j)⟩
  · cases qq
theorem snd_rI0 {K : PySem.W.Frag} {g : Int → Int → V} {g' : Int → Int → D} (hg : ∀ i j, (g' i j).toV = some (g i j)) : Snd2 K true (rI0 g) (gI2 fun i j => some (g' i j)) := fun G H x y d1 d2 d e h1 h2 q Q k => by
  obtain ⟨i, j, rfl, rfl, qq⟩ := gI2_some q
  cases qq
  exact ⟨i, j, h1.int_inv, h2.int_inv, k_sc k (hg i j)⟩
instance {i j : Int} : Decidable (CDiv i j) := by unfold CDiv; infer_instance
instance {i j : Int} : Decidable (CPow i j) := by unfold CPow; infer_instance
instance {i j : Int} : Decidable (CMul i j) := by unfold CMul; infer_instance
def gSub := gI2 fun i j => some (.int (i - j))
def divW (j : Int) : Bool := decide (0 < j) && decide (j.natAbs.log2 < 9000)
def gFdiv := gI2 fun i j => if CDiv i j ∨ divW j = true then some (.int (i / j)) else none
def gMod := gI2 fun i j => if 0 < j then some (.int (i % j)) else none
def gPow := gI2 fun i j => if CPow i j then some (.int (i ^ j.toNat)) else none
def gShr := gI2 fun i j => if 0 ≤ j then some (.int (i / 2 ^ j.toNat)) else none
def gShl := gI2 fun i j => if CPow i j then some (.int (i * 2 ^ j.toNat)) else none
def gLt := gI2 fun i j => some (.bl (decide (i < j)))
def gLe := gI2 fun i j => some (.bl (decide (i ≤ j)))
def gGt := gI2 fun i j => some (.bl (decide (j < i)))
def gGe := gI2 fun i j => some (.bl (decide (j ≤ i)))
section
variable {K : PySem.W.Frag}
theorem snd_sub : Snd2 K true (rI0 fun i j => .int (i - j)) gSub := snd_rI0 fun _ _ => rfl
def rFdiv : R2 := fun x y H Q => rI CDiv (fun i j => .int (i / j)) x y H Q ∨ rI CDivW (fun i j => .int (i / j)) x y H Q
theorem snd_fdiv : Snd2 K true rFdiv gFdiv := fun G H x y d1 d2 d e h1 h2 q Q k => by
  obtain ⟨i, j, rfl, rfl, qq⟩ := gI2_some q
  split at qq
  · cases qq
    rename_i hc
    rcases hc with hc | hc
    · exact .inl ⟨i, j, h1.int_inv, h2.int_inv, hc, k_sc k rfl⟩
    · unfold divW at hc
      rw [Bool.and_eq_true] at hc
      exact .inr ⟨i, j, h1.int_inv, h2.int_inv, ⟨of_decide_eq_true hc.1, of_decide_eq_true hc.2⟩, k_sc k rfl⟩
  · cases qq
theorem snd_mod : Snd2 K true (rI (fun _ j => 0 < j) fun i j => .int (i % j)) gMod := snd_rI (C := fun _ j => 0 < j) fun _ _ => rfl
theorem snd_pow : Snd2 K true (rI CPow fun i j => .int (i ^ j.toNat)) gPow := snd_rI fun _ _ => rfl
theorem snd_lt : Snd2 K true (rI0 fun i j => .bl (decide (i < j))) gLt := snd_rI0 fun _ _ => rfl
theorem snd_le : Snd2 K true (rI0 fun i j => .bl (decide (i ≤ j))) gLe := snd_rI0 fun _ _ => rfl
theorem snd_gt : Snd2 K true (rI0 fun i j => .bl (decide (j < i))) gGt := snd_rI0 fun _ _ => rfl
theorem snd_ge : Snd2 K true (rI0 fun i j => .bl (decide (j ≤ i))) gGe := snd_rI0 fun _ _ => rfl
end
theorem gI2_sc {f : Int → Int → Option D} (hf : ∀ i j d, f i j = some d → d.sc = true) {a b : M D} : ScF (e2 (gI2 f) a b) := fun env d env' q => by
  obtain ⟨d1, env1, q1, q⟩ := bnd_ok q
  obtain ⟨d2, env2, q2, q⟩ := bnd_ok q
  obtain ⟨qg, rfl⟩ := lift_ok q
  obtain ⟨i, j, _, _, q⟩ := gI2_some qg
  exact hf i j d q
theorem e2_sc {g : D → D → Option D} (hg : ∀ x y d, g x y = some d → d.sc = true) {a b : M D} : ScF (e2 g a b) := fun env d env' q => by
  obtain ⟨d1, env1, q1, q⟩ := bnd_ok q
  obtain ⟨d2, env2, q2, q⟩ := bnd_ok q
  obtain ⟨qg, rfl⟩ := lift_ok q
  exact hg _ _ _ qg
theorem e1_sc {g : D → Option D} (hg : ∀ x d, g x = some d → d.sc = true) {a : M D} : ScF (e1 g a) := fun env d env' q => by
  obtain ⟨d1, env1, q1, q⟩ := bnd_ok q
  obtain ⟨qg, rfl⟩ := lift_ok q
  exact hg _ _ qg
theorem eN_sc {g : List D → Option D} (hg : ∀ x d, g x = some d → d.sc = true) {a : M (List D)} : ScF (eN g a) := fun env d env' q => by
  obtain ⟨d1, env1, q1, q⟩ := bnd_ok q
  obtain ⟨qg, rfl⟩ := lift_ok q
  exact hg _ _ qg
def gAdd : D → D → Option D
  | .int i, .int j => some (.int (i + j))
  | .str a, .str b => if a.length + b.length ≤ LIM then some (.str (a ++ b)) else none
  | .lst a, .lst b => if a.length + b.length ≤ LIM then some (.lst (a ++ b)) else none
  | _, _ => none
def rAdd3 : R2 := fun x y H Q => rI0 (fun i j => .int (i + j)) x y H Q ∨ (∃ i j, x = .str i ∧ y = .str j ∧ i.length + j.length ≤ sizeLine ∧ Q (.str (i ++ j)) H) ∨ rCat x y H Q
theorem op_add3 {X : Cx} : OpR X (binaryOp .Add) rAdd3 := op_add.or (op_add_str.or op_cat)
theorem snd_add {K : PySem.W.Frag} : Snd2 K true rAdd3 gAdd := fun G H x y d1 d2 d e h1 h2 q Q k => by
  unfold gAdd at q
  split at q
  · cases q; exact .inl ⟨_, _, h1.int_inv, h2.int_inv, k_sc k rfl⟩
  · split at q
    · cases q
      rename_i hl
      exact .inr (.inl ⟨_, _, h1.str_inv, h2.str_inv, lim_sz hl, k_sc k rfl⟩)
    · cases q
  · split at q
    · cases q
      rename_i hl
      obtain ⟨a, xs, rfl, s1, r1⟩ := h1.lst_inv
      obtain ⟨b, ys, rfl, s2, r2⟩ := h2.lst_inv
      refine .inr (.inr ⟨a, b, xs, ys, rfl, rfl, e _ _ s1, e _ _ s2, by rw [r1.length, r2.length]; exact lim_sz hl, fun p hp => k _ _ (Ex.new hp) (new_rp e hp (r1.append r2)) (new_nn hp (r1.append r2))⟩)
    · cases q
  · cases q
theorem RpL.rep {K : PySem.W.Frag} {x : Bool} {G : Hp} {vs : List V} {ds : List D} (h : RpL K x G vs ds) : ∀ k : Nat, RpL K x G (List.replicate k vs).flatten (List.replicate k ds).flatten
  | 0 => .nil
  | k + 1 => by
    rw [List.replicate_succ, List.replicate_succ, List.flatten_cons, List.flatten_cons]
    exact h.append (RpL.rep h k)
def repS (z : Str) (n : Nat) : Str := ⟨(List.replicate n z.cps.toList).flatten.toArray⟩
theorem foldl_cps (a : Array Nat) : ∀ (n : Nat) (b : Array Nat), ((List.replicate n a).foldl (· ++ ·) b) = b ++ (List.replicate n a.toList).flatten.toArray
  | 0, b => by simp
  | n + 1, b => by
    rw [List.replicate_succ, List.foldl_cons, foldl_cps a n, List.replicate_succ, List.flatten_cons]
    apply Array.ext'
    simp
def rSRep : R2 := fun x y H Q => ∃ (z : Str) (k : Int), x = .str z ∧ y = .int k ∧ -(2 ^ 63) ≤ k ∧ k < 2 ^ 31 ∧ z.length * k.toNat ≤ LIM ∧ Q (.str (repS z k.toNat)) H
theorem op_srep {X : Cx} : OpR X (binaryOp .Mult) rSRep := by
  intro pp s σ H x y v u Q I rx ry h
  obtain ⟨z, k, rfl, rfl, h1, h2, h3, q⟩ := h
  obtain ⟨t, rfl⟩ := rx
  obtain ⟨t', rfl⟩ := ry
  have hL : (LIM : Nat) = 100000 := rfl
  refine PySem.P.mul_str ?_ (fun hn _ => ?_) (fun hn _ => ?_) ?_
  · rw [decide_eq_false (by omega), decide_eq_false (by omega)]; rfl
  · have hk : (k.toNat : Int) = k := Int.toNat_of_nonneg (by omega)
    have : (z.length : Int) ≤ (2 ^ 63 - 1) / k := by
      apply Int.le_ediv_of_mul_le (by omega)
      rw [← hk]
      have : ((z.length * k.toNat : Nat) : Int) ≤ 100000 := by omega
      rw [Int.natCast_mul] at this
      omega
    omega
  · unfold PySem.Builtin.Str.tooLong
    exact decide_eq_false (by have : (100000 : Nat) ≤ sizeLine := by decide
                              omega)
  · split
    · rename_i hn
      have e : k.toNat = 0 := by omega
      rw [e] at q
      exact ⟨by decide, .str (repS z 0), H, I.tok _, ⟨_, rfl⟩, q⟩
    · rename_i hn
      split
      · rename_i hc
        rw [Bool.or_eq_true] at hc
        have e : repS z k.toNat = z := by
          rcases hc with hc | hc
          · have : k = 1 := by simpa using hc
            subst this
            unfold repS
            show (⟨([z.cps.toList] : List (List Nat)).flatten.toArray⟩ : Str) = z
            simp
          · have h0 : z.cps.toList = [] := by
              have : z.length = 0 := by simpa using hc
              apply List.eq_nil_of_length_eq_zero
              rw [Array.length_toList]; exact this
            unfold repS
            rw [h0]
            have : ∀ n : Nat, (List.replicate n ([] : List Nat)).flatten = [] := fun n => by simp
            rw [this]
            obtain ⟨⟨l⟩⟩ := z
            simp at h0
            rw [h0]
        rw [e] at q
        exact ⟨.str z, H, I, ⟨_, rfl⟩, q⟩
      · have e : (⟨(List.replicate k.toNat z.cps).foldl (· ++ ·) #[]⟩ : Str) = repS z k.toNat := by
          unfold repS
          rw [foldl_cps]
          simp
        rw [e]
        refine ⟨?_, .str (repS z k.toNat), H, I.tok _, ⟨_, rfl⟩, q⟩
        show (repS z k.toNat).cps.size ≤ sizeLine
        unfold repS
        rw [List.size_toArray, List.length_flatten, List.map_replicate, List.sum_replicate_nat, Array.length_toList]
        have hz : z.cps.size = z.length := rfl
        have : (100000 : Nat) ≤ sizeLine := by decide
        rw [hz, Nat.mul_comm]
        omega
def mulOk (i j : Int) : Bool := decide (CMul i j) || decide (i.natAbs.log2 + j.natAbs.log2 < 1000000)
def gMul : D → D → Option D
  | .int i, .int j => if mulOk i j then some (.int (i * j)) else none
  | .lst a, .int k => if a.length * k.toNat ≤ LIM ∧ -(2 ^ 63) ≤ k ∧ k < 2 ^ 63 then some (.lst (List.replicate k.toNat a).flatten) else none
  | .str z, .int k => if z.length * k.toNat ≤ LIM ∧ -(2 ^ 63) ≤ k ∧ k < 2 ^ 31 then some (.str (repS z k.toNat)) else none
  | _, _ => none
def rMul2 : R2 := fun x y H Q => rSRep x y H Q ∨ (rI CMul (fun i j => .int (i * j)) x y H Q ∨ rI CMulW (fun i j => .int (i * j)) x y H Q) ∨ rRep x y H Q
theorem op_mul2 {X : Cx} : OpR X (binaryOp .Mult) rMul2 := op_srep.or ((op_mul.or op_mulW).or op_rep)
theorem snd_mul {K : PySem.W.Frag} : Snd2 K true rMul2 gMul := fun G H x y d1 d2 d e h1 h2 q Q k => by
  unfold gMul at q
  split at q
  · split at q
    · cases q
      rename_i hc
      rcases Bool.or_eq_true_iff.mp hc with hc | hc
      · exact .inr (.inl (.inl ⟨_, _, h1.int_inv, h2.int_inv, of_decide_eq_true hc, k_sc k rfl⟩))
      · exact .inr (.inl (.inr ⟨_, _, h1.int_inv, h2.int_inv, (by unfold CMulW; exact of_decide_eq_true hc), k_sc k rfl⟩))
    · cases q
  · split at q
    · cases q
      rename_i hc
      obtain ⟨hc, hk1, hk2⟩ := hc
      obtain ⟨a, xs, rfl, s1, r1⟩ := h1.lst_inv
      refine .inr (.inr ⟨a, _, xs, rfl, h2.int_inv, e _ _ s1, hk1, hk2, by rw [r1.length]; exact lim_sz hc, fun p hp => k _ _ (Ex.new hp) (new_rp e hp (r1.rep _)) (new_nn hp (r1.rep _))⟩)
    · cases q
  · split at q
    · cases q
      rename_i hc
      obtain ⟨hc, hk1, hk2⟩ := hc
      exact .inl ⟨_, _, h1.str_inv, h2.int_inv, hk1, hk2, hc, k_sc k rfl⟩
    · cases q
  · cases q
def gNeg : D → Option D
  | .int i => some (.int (-i))
  | _ => none
theorem snd_neg {K : PySem.W.Frag} : Snd1 K true (rU fun i => .int (-i)) gNeg := fun G H x d1 d e h1 q Q k => by
  unfold gNeg at q
  split at q
  · cases q; exact ⟨_, h1.int_inv, k_sc k rfl⟩
  · cases q
mutual
def D.toP : D → Option PyData
  | .non => some .none
  | .bl b => some (.bool b)
  | .int i => some (.int i)
  | .str x => some (.str x)
  | .lst xs => (toPs xs).map .list
  | .tup xs => (toPs xs).map .tuple
  | _ => none
def toPs : List D → Option (List PyData)
  | [] => some []
  | x :: xs => match D.toP x, toPs xs with
    | some a, some b => some (a :: b)
    | _, _ => none
end
mutual
theorem Rp.dp {K : PySem.W.Frag} {G H : Hp} (e : Ex G H) : ∀ {v : V} {d : D} {p : PyData}, Rp K true G v d → d.toP = some p → Dp K H v p
  | _, .non, _, h, q => by cases q; rw [h.non_inv]; exact .non
  | _, .bl b, _, h, q => by cases q; rw [h.bl_inv]; exact .bl b
  | _, .int i, _, h, q => by cases q; rw [h.int_inv]; exact .int i
  | _, .str x, _, h, q => by cases q; rw [h.str_inv]; exact .str x
  | _, .lst ds, p, h, q => by
    cases h with
    | sc z => cases z
    | lst s r =>
      rw [D.toP] at q
      cases z : toPs ds with
      | none => rw [z] at q; cases q
      | some ps =>
        rw [z] at q
        cases q
        exact .lst (.inl (.inl (e _ _ s))) (RpL.dp e r z)
  | _, .tup ds, p, h, q => by
    cases h with
    | sc z => cases z
    | tup s r =>
      rw [D.toP] at q
      cases z : toPs ds with
      | none => rw [z] at q; cases q
      | some ps =>
        rw [z] at q
        cases q
        exact .tup (.inl (.inl (e _ _ s))) (RpL.dp e r z)
  | _, .dic _, _, _, q => by rw [D.toP] at q <;> first | cases q | (intros; rintro ⟨⟩)
  | _, .dit _, _, _, q => by rw [D.toP] at q <;> first | cases q | (intros; rintro ⟨⟩)
  | _, .exc _, _, _, q => by rw [D.toP] at q <;> first | cases q | (intros; rintro ⟨⟩)
theorem RpL.dp {K : PySem.W.Frag} {G H : Hp} (e : Ex G H) : ∀ {vs : List V} {ds : List D} {ps : List PyData}, RpL K true G vs ds → toPs ds = some ps → DpAll K H vs ps
  | _, _, _, .nil, q => by rw [toPs] at q; cases q; exact .nil
  | _, d :: ds, ps, .cons h r, q => by
    rw [toPs] at q
    cases z1 : D.toP d with
    | none => rw [z1] at q; cases q
    | some a =>
      cases z2 : toPs ds with
      | none => rw [z1, z2] at q; cases q
      | some b =>
        rw [z1, z2] at q
        cases q
        exact .cons (Rp.dp e h z1) (RpL.dp e r z2)
end
def deq (a b : D) : Option Bool := match a, b with
  | .int i, .int j => some (decide (i = j))
  | .str x, .str y => some (decide (x = y))
  | a, b => match a.toP, b.toP with
    | some p, some q => if SeqAt.shaped p && SeqAt.shaped q then some (PyData.eqv p q) else none
    | _, _ => none
def gEq (a b : D) : Option D := (deq a b).map .bl
def gNe (a b : D) : Option D := (deq a b).map fun k => .bl (!k)
def rEq2 (K : PySem.W.Frag) : R2 := fun x y H Q => rEq x y H Q ∨ rEqD K x y H Q
def rNe2 (K : PySem.W.Frag) : R2 := fun x y H Q => rNe x y H Q ∨ rNeD K x y H Q
theorem op_eq2 {X : Cx} (hu : X.A.units + 64 < cLine) : OpR X (compareOp .Eq) (rEq2 X.K) := op_eq.or (op_eqD hu)
theorem op_ne2 {X : Cx} (hu : X.A.units + 64 < cLine) : OpR X (compareOp .NotEq) (rNe2 X.K) := op_ne.or (op_neD hu)
theorem deq_cases {K : PySem.W.Frag} {G H : Hp} {x y : V} {a b : D} {k : Bool} (e : Ex G H) (h1 : Rp K true G x a) (h2 : Rp K true G y b) (q : deq a b = some k) :
    (scal x y = true ∧ decide (x = y) = k) ∨ ∃ p p', Dp K H x p ∧ Dp K H y p' ∧ SeqAt.shaped p = true ∧ SeqAt.shaped p' = true ∧ PyData.eqv p p' = k := by
  unfold deq at q
  split at q
  · cases q
    rw [h1.int_inv, h2.int_inv]
    refine .inl ⟨rfl, ?_⟩
    rw [Bool.eq_iff_iff]; simp
  · cases q
    rw [h1.str_inv, h2.str_inv]
    refine .inl ⟨rfl, ?_⟩
    rw [Bool.eq_iff_iff]; simp
  · split at q
    · split at q
      · cases q
        rename_i p p' z1 z2 hs
        rw [Bool.and_eq_true] at hs
        exact .inr ⟨p, p', h1.dp e z1, h2.dp e z2, hs.1, hs.2, rfl⟩
      · cases q
    · cases q
theorem snd_eq {K : PySem.W.Frag} : Snd2 K true (rEq2 K) gEq := fun G H x y d1 d2 d e h1 h2 q Q k => by
  unfold gEq at q
  cases z : deq d1 d2 with
  | none => rw [z] at q; cases q
  | some b =>
    rw [z] at q
    cases q
    rcases deq_cases e h1 h2 z with ⟨s, t⟩ | ⟨p, p', a1, a2, a3, a4, t⟩
    · exact .inl ⟨s, by rw [t]; exact k_sc k rfl⟩
    · exact .inr ⟨p, p', a1, a2, a3, a4, by rw [t]; exact k_sc k rfl⟩
theorem snd_ne {K : PySem.W.Frag} : Snd2 K true (rNe2 K) gNe := fun G H x y d1 d2 d e h1 h2 q Q k => by
  unfold gNe at q
  cases z : deq d1 d2 with
  | none => rw [z] at q; cases q
  | some b =>
    rw [z] at q
    cases q
    rcases deq_cases e h1 h2 z with ⟨s, t⟩ | ⟨p, p', a1, a2, a3, a4, t⟩
    · exact .inl ⟨s, by rw [t]; exact k_sc k rfl⟩
    · exact .inr ⟨p, p', a1, a2, a3, a4, by rw [t]; exact k_sc k rfl⟩
def isNon : D → Option Bool
  | .non => some true
  | _ => some false
theorem isNon_v {K : PySem.W.Frag} {G : Hp} {x : V} {d : D} {k : Bool} (h : Rp K true G x d) (q : isNon d = some k) : decide (x = .non) = k := by
  cases h with
  | sc z => cases d <;> cases q <;> cases z <;> rfl
  | lst _ _ => cases q; rfl
  | tup _ _ => cases q; rfl
  | dic _ _ _ => cases q; rfl
  | dit _ _ _ => cases q; rfl
  | exc _ => cases q; rfl
def gIsN (a b : D) : Option D := match b with
  | .non => (isNon a).map .bl
  | _ => none
def gNotN (a b : D) : Option D := match b with
  | .non => (isNon a).map fun k => .bl (!k)
  | _ => none
theorem snd_isN {K : PySem.W.Frag} : Snd2 K true (fun x y H Q => y = .non ∧ Q (.bl (decide (x = .non))) H) gIsN := fun G H x y d1 d2 d e h1 h2 q Q k => by
  unfold gIsN at q
  split at q
  · cases z : isNon d1 with
    | none => rw [z] at q; cases q
    | some b => rw [z] at q; cases q; exact ⟨h2.non_inv, by rw [isNon_v h1 z]; exact k_sc k rfl⟩
  · cases q
theorem snd_notN {K : PySem.W.Frag} : Snd2 K true (fun x y H Q => y = .non ∧ Q (.bl (!decide (x = .non))) H) gNotN := fun G H x y d1 d2 d e h1 h2 q Q k => by
  unfold gNotN at q
  split at q
  · cases z : isNon d1 with
    | none => rw [z] at q; cases q
    | some b => rw [z] at q; cases q; exact ⟨h2.non_inv, by rw [isNon_v h1 z]; exact k_sc k rfl⟩
  · cases q
theorem atI_rp {K : PySem.W.Frag} {x : Bool} {G : Hp} {xs : List V} {ds : List D} {i : Int} {d : D} (h : RpL K x G xs ds) (q : atI ds i = some d) : ∃ v, atI xs i = some v ∧ Rp K x G v d := by
  unfold atI at q ⊢
  rw [h.length]
  cases z : ixN ds.length i with
  | none => rw [z] at q; cases q
  | some j =>
    rw [z] at q
    exact h.get q
def gIx : D → D → Option D
  | .lst ds, .int i => atI ds i
  | .tup ds, .int i => atI ds i
  | .str z, .int i => if z.length ≤ LIM then (atI z.cps.toList i).map fun c => .str ⟨#[c]⟩ else none
  | _, _ => none
theorem snd_ix {K : PySem.W.Frag} : Snd2 K false (rIx K) gIx := fun G H x y d1 d2 d e h1 h2 q Q k => by
  unfold gIx at q
  split at q
  · obtain ⟨a, xs, rfl, s1, r1⟩ := h1.lst_inv
    obtain ⟨v, hv, hr⟩ := atI_rp r1 q
    exact .inl ⟨a, xs, _, v, rfl, h2.int_inv, .inl (.inl (e _ _ s1)), hv, k v H (Ex.refl H) (hr.mono (Ex.grow e (Ex.refl H))) fun z => by cases z⟩
  · obtain ⟨a, xs, rfl, s1, r1⟩ := h1.tup_inv
    obtain ⟨v, hv, hr⟩ := atI_rp r1 q
    exact .inr (.inl ⟨a, xs, _, v, rfl, h2.int_inv, .inl (.inl (e _ _ s1)), hv, k v H (Ex.refl H) (hr.mono (Ex.grow e (Ex.refl H))) fun z => by cases z⟩)
  · split at q
    · rename_i z i hl
      cases zz : atI z.cps.toList i with
      | none => rw [zz] at q; cases q
      | some c =>
        rw [zz] at q
        cases q
        exact .inr (.inr ⟨_, _, c, h1.str_inv, h2.int_inv, lim_sz hl, zz, k_sc k rfl⟩)
    · cases q
  · cases q
theorem se_ix {X : Cx} {cf : Cf} {W : WX} {c : Cls} {n1 n2 : Bool} {a b : Expr} {ta tb : TE} {fa fb : M D} {pos : Pos} (hK : cf.K = X.K) (ha : SE X cf W c n1 a ta fa) (hb : SE X cf W c n2 b tb fb) (hs : PlainIx b) : SE X cf W c false (.Subscript a b pos) (tOp (rIx cf.K) ta tb) (e2 gIx fa fb) := by
  refine ⟨?_, sd_op2 snd_ix ha.s hb.s⟩
  rw [hK]
  exact pe_ix ix_seq ha.p hb.p hs
def asI : D → Option (Option Int)
  | .int i => some (some i)
  | _ => none
def oNone : M (Option Int) := ret none
def oSome (f : M D) : M (Option Int) := bnd f fun d => lift (asI d)
def cutA {α : Type} (xs : List α) (lo hi : Option Int) : List α := (xs.drop (HT.sIx xs.length 0 lo)).take (HT.sIx xs.length xs.length hi - HT.sIx xs.length 0 lo)
def gSl : D → Option Int → Option Int → Option D
  | .lst ds, l, h => some (.lst (cutA ds l h))
  | .str z, l, h => if z.length ≤ LIM then some (.str (cutS z l h)) else none
  | _, _, _ => none
def eSl (f : M D) (lo hi : M (Option Int)) : M D := bnd f fun x => bnd lo fun l => bnd hi fun h => lift (gSl x l h)
def SdO (cf : Cf) (W : WX) (to : TO) (f : M (Option Int)) : Prop :=
  ∀ (R : Rs) (Hs : Hp) (env : PEnv) (σ : L2.St) (H : Hp) (F : Nat → List Addr) (wf : List Addr), Rel cf R Hs env σ H F wf → ∀ Q : Option Int → Hp → Prop,
    match f env with
    | .ok o env' => (∀ Hs' H', Stp cf wf env Hs H env' Hs' H' → Rel cf R Hs' env' σ H' F wf → Q o H') → to σ H Q
    | .ex x env' => (∀ Hs' H', Stp cf wf env Hs H env' Hs' H' → Rel cf R Hs' env' σ H' F wf → W (cf.cv x) none σ H') → to σ H Q
    | .stuck => True
structure SO (X : Cx) (cf : Cf) (W : WX) (e : Option Expr) (t : TO) (f : M (Option Int)) : Prop where
  p : PO X e t
  s : SdO cf W t f
section
variable {X : Cx} {cf : Cf} {W : WX} {c : Cls} {n n1 n2 : Bool}
theorem so_none : SO X cf W none tNoPart oNone := ⟨po_none, fun R Hs env σ H F wf r Q k => k Hs H Stp.refl r⟩
theorem so_some {e : Expr} {te : TE} {f : M D} (h : SE X cf W c n e te f) : SO X cf W (some e) (tPart te) (oSome f) := by
  obtain ⟨p, s⟩ := h
  refine ⟨po_some p, fun R Hs env σ H F wf r Q => ?_⟩
  cases q : oSome f env with
  | ok o env' =>
    intro k
    obtain ⟨d, env1, q1, q⟩ := bnd_ok q
    obtain ⟨qg, rfl⟩ := lift_ok q
    unfold asI at qg
    split at qg
    · cases qg
      exact s.ok r q1 fun v Hs1 H1 s1 r1 p1 _ => ⟨_, p1.int_inv, k Hs1 H1 s1 r1⟩
    · cases qg
  | ex x env' =>
    intro k
    rcases bnd_ex q with q | ⟨d1, env1, q1, q⟩
    · exact s.exn r q k
    · exact (lift_ex q).elim
  | stuck => trivial
theorem SdO.ok {to : TO} {f : M (Option Int)} {R : Rs} {Hs : Hp} {env env' : PEnv} {σ : L2.St} {H : Hp} {F : Nat → List Addr} {wf : List Addr} (s : SdO cf W to f) (r : Rel cf R Hs env σ H F wf) {d : Option Int} (q : f env = .ok d env') {Q : Option Int → Hp → Prop} (k : ∀ Hs' H', Stp cf wf env Hs H env' Hs' H' → Rel cf R Hs' env' σ H' F wf → Q d H') : to σ H Q := by
  have h := s R Hs env σ H F wf r Q
  rw [q] at h
  exact h k
theorem SdO.exn {to : TO} {f : M (Option Int)} {R : Rs} {Hs : Hp} {env env' : PEnv} {σ : L2.St} {H : Hp} {F : Nat → List Addr} {wf : List Addr} (s : SdO cf W to f) (r : Rel cf R Hs env σ H F wf) {x : Str} (q : f env = .ex x env') {Q : Option Int → Hp → Prop} (k : ∀ Hs' H', Stp cf wf env Hs H env' Hs' H' → Rel cf R Hs' env' σ H' F wf → W (cf.cv x) none σ H') : to σ H Q := by
  have h := s R Hs env σ H F wf r Q
  rw [q] at h
  exact h k
theorem cutV_rp {K : PySem.W.Frag} {x : Bool} {G : Hp} {xs : List V} {ds : List D} (h : RpL K x G xs ds) (lo hi : Option Int) : RpL K x G (cutV xs lo hi) (cutA ds lo hi) := by
  unfold cutV cutA
  rw [h.length]
  exact (h.drop _).take _
def rSl2 (K : PySem.W.Frag) : V → Option Int → Option Int → Hp → VK → Prop := fun x lo hi H Q => rSlL K x lo hi H Q ∨ rSlS x lo hi H Q
theorem snd_sl {K : PySem.W.Frag} {G H : Hp} {x : V} {d1 d : D} {l h : Option Int} (e : Ex G H) (h1 : Rp K true G x d1) (q : gSl d1 l h = some d) (Q : VK) (k : ∀ v H', Ex H H' → Rp K true (grow G H H') v d → Nn K true H H' v d → Q v H') : rSl2 K x l h H Q := by
  unfold gSl at q
  split at q
  · cases q
    obtain ⟨a, xs, rfl, s1, r1⟩ := h1.lst_inv
    exact .inl ⟨a, xs, rfl, .inl (.inl (e _ _ s1)), fun p hp => k _ _ (Ex.new hp) (new_rp e hp (cutV_rp r1 _ _)) (new_nn hp (cutV_rp r1 _ _))⟩
  · split at q
    · cases q
      rename_i hl
      exact .inr ⟨_, h1.str_inv, lim_sz hl, k_sc k rfl⟩
    · cases q
  · cases q
theorem se_sl {e : Expr} {lo hi : Option Expr} {te : TE} {tl th : TO} {f : M D} {fl fh : M (Option Int)} {p2 pos : Pos} (hK : cf.K = X.K) (h : SE X cf W c n1 e te f) (hl : SO X cf W lo tl fl) (hh : SO X cf W hi th fh) : SE X cf W c true (.Subscript e (.Slice lo hi none p2) pos) (tSl (rSl2 cf.K) te tl th) (eSl f fl fh) := by
  rw [hK]
  obtain ⟨p, s⟩ := h
  obtain ⟨p2, s2⟩ := hl
  obtain ⟨p3, s3⟩ := hh
  refine ⟨pe_slice (r := rSl2 X.K) (sl_list.or sl_str) p p2 p3, Sd.mk (fun R Hs env σ H F wf r d env' q Q k => ?_) (fun R Hs env σ H F wf r x env' q Q k => ?_)⟩
  · obtain ⟨d1, env1, q1, q⟩ := bnd_ok q
    obtain ⟨d2, env2, q2, q⟩ := bnd_ok q
    obtain ⟨d3, env3, q3, q⟩ := bnd_ok q
    obtain ⟨qg, rfl⟩ := lift_ok q
    exact s.ok r q1 fun v Hs1 H1 s1 r1 p1 _ => s2.ok r1 q2 fun Hs2 H2 s2 r2 => s3.ok r2 q3 fun Hs3 H3 s3 r3 => by
      show rSl2 X.K v d2 d3 H3 Q
      rw [← hK]
      exact snd_sl (rg_sub (H0 := R.H0) (Hst := H) (c := c) (wf := wf) r3.exs) ((p1.mono (rg_step s2)).mono (rg_step s3)) qg Q fun v4 H4 x p nn => fin_op ((s1.trans s2).trans s3) r3 x p nn k
  · rcases bnd_ex q with q | ⟨d1, env1, q1, q⟩
    · exact s.exn r q k
    · rcases bnd_ex q with q | ⟨d2, env2, q2, q⟩
      · exact s.ok r q1 fun v Hs1 H1 s1 r1 p1 _ => s2.exn r1 q fun Hs2 H2 s2 r2 => k Hs2 H2 (s1.trans s2) r2
      · rcases bnd_ex q with q | ⟨d3, env3, q3, q⟩
        · exact s.ok r q1 fun v Hs1 H1 s1 r1 p1 _ => s2.ok r1 q2 fun Hs2 H2 s2 r2 => s3.exn r2 q fun Hs3 H3 s3 r3 => k Hs3 H3 ((s1.trans s2).trans s3) r3
        · exact (lift_ex q).elim
def gRev : D → Option D
  | .lst ds => some (.lst ds.reverse)
  | _ => none
theorem snd_rev {K : PySem.W.Frag} : Snd1 K true (fun x H1 Q => ∃ a xs, x = .ref a ∧ SqL K H1 a xs ∧ ∀ p, H1 p = none → Q (.ref p) (upd H1 p (.lst xs.reverse))) gRev := fun G H x d1 d e h1 q Q k => by
  unfold gRev at q
  split at q
  · cases q
    obtain ⟨a, xs, rfl, s1, r1⟩ := h1.lst_inv
    exact ⟨a, xs, rfl, .inl (.inl (e _ _ s1)), fun p hp => k _ _ (Ex.new hp) (new_rp e hp r1.rev) (new_nn hp r1.rev)⟩
  · cases q
theorem se_rev {e : Expr} {te : TE} {f : M D} {k : Nat} {p1 p2 p3 pos : Pos} (hK : cf.K = X.K) (h : SE X cf W c n1 e te f) : SE X cf W c true (.Subscript e (.Slice none none (some (.UnaryOp .USub (.Constant (.int 1) k p1) p2)) p3) pos) (tRevL cf.K te) (e1 gRev f) := by
  rw [hK]
  obtain ⟨p, s⟩ := h
  exact ⟨pe_revL p, sd_op1 (r := fun x H1 Q => ∃ a xs, x = .ref a ∧ SqL X.K H1 a xs ∧ ∀ p, H1 p = none → Q (.ref p) (upd H1 p (.lst xs.reverse))) (by rw [← hK]; exact snd_rev) s⟩
end
def gLen : List D → Option D
  | [.lst ds] => some (.int ds.length)
  | [.tup ds] => some (.int ds.length)
  | [.str z] => if z.length ≤ LIM then some (.int z.length) else none
  | _ => none
theorem RpL.one {K : PySem.W.Frag} {x : Bool} {G : Hp} {xs : List V} {d : D} (h : RpL K x G xs [d]) : ∃ v, xs = [v] ∧ Rp K x G v d := by
  cases h with
  | cons h r => cases r; exact ⟨_, rfl, h⟩
theorem RpL.two {K : PySem.W.Frag} {x : Bool} {G : Hp} {xs : List V} {d e : D} (h : RpL K x G xs [d, e]) : ∃ v w, xs = [v, w] ∧ Rp K x G v d ∧ Rp K x G w e := by
  cases h with
  | cons h r =>
    obtain ⟨w, rfl, h2⟩ := r.one
    exact ⟨_, w, rfl, h, h2⟩
theorem snd_len {K : PySem.W.Frag} : SndN K true (fun xs H Q => ∃ x n, xs = [x] ∧ LenV K x H n ∧ Q (.int n) H) gLen := fun G H xs ds d e h q Q k => by
  unfold gLen at q
  split at q
  · cases q
    obtain ⟨v, rfl, hq⟩ := h.one
    obtain ⟨a, xs, rfl, s1, r1⟩ := hq.lst_inv
    exact ⟨_, _, rfl, .inl ⟨xs, .inl (.inl (e _ _ s1)), rfl⟩, by rw [r1.length]; exact k_sc k rfl⟩
  · cases q
    obtain ⟨v, rfl, hq⟩ := h.one
    obtain ⟨a, xs, rfl, s1, r1⟩ := hq.tup_inv
    exact ⟨_, _, rfl, .inr ⟨xs, .inl (.inl (e _ _ s1)), rfl⟩, by rw [r1.length]; exact k_sc k rfl⟩
  · split at q
    · cases q
      rename_i hl
      obtain ⟨v, rfl, hq⟩ := h.one
      rw [hq.str_inv]
      exact ⟨_, _, rfl, ⟨lim_sz hl, rfl⟩, k_sc k rfl⟩
    · cases q
  · cases q
def gMax2 : List D → Option D
  | [.int i, .int j] => some (.int (if j > i then j else i))
  | _ => none
def gMin2 : List D → Option D
  | [.int i, .int j] => some (.int (if j < i then j else i))
  | _ => none
theorem snd_max2 {K : PySem.W.Frag} : SndN K true (fun xs H Q => ∃ i j, xs = [.int i, .int j] ∧ Q (.int (if j > i then j else i)) H) gMax2 := fun G H xs ds d e h q Q k => by
  unfold gMax2 at q
  split at q
  · cases q
    obtain ⟨v, w, rfl, h1, h2⟩ := h.two
    exact ⟨_, _, by rw [h1.int_inv, h2.int_inv], k_sc k rfl⟩
  · cases q
theorem snd_min2 {K : PySem.W.Frag} : SndN K true (fun xs H Q => ∃ i j, xs = [.int i, .int j] ∧ Q (.int (if j < i then j else i)) H) gMin2 := fun G H xs ds d e h q Q k => by
  unfold gMin2 at q
  split at q
  · cases q
    obtain ⟨v, w, rfl, h1, h2⟩ := h.two
    exact ⟨_, _, by rw [h1.int_inv, h2.int_inv], k_sc k rfl⟩
  · cases q
def gInt1 : List D → Option D
  | [.int i] => some (.int i)
  | [.bl b] => some (.int (if b then 1 else 0))
  | _ => none
def chV (z : Str) : List V := z.cps.toList.map fun c => V.str ⟨#[c]⟩
def chD (z : Str) : List D := z.cps.toList.map fun c => D.str ⟨#[c]⟩
theorem chs_rp {K : PySem.W.Frag} {x : Bool} {G : Hp} : ∀ l : List Nat, RpL K x G (l.map fun c => V.str ⟨#[c]⟩) (l.map fun c => D.str ⟨#[c]⟩)
  | [] => .nil
  | c :: l => .cons (.str _) (chs_rp l)
def rListS : List V → Hp → VK → Prop := fun xs H Q => ∃ z : Str, xs = [.str z] ∧ z.length ≤ LIM ∧ ∀ l, H l = none → Q (.ref l) (upd H l (.lst (chV z)))
theorem call_listS {X : Cx} (hc : X.calm = true) : CallR X (.type "list") rListS := by
  intro pp s σ H xs us Q I r h
  obtain ⟨z, rfl, hz, q⟩ := h
  obtain ⟨u, rfl, ru⟩ := r.one
  obtain ⟨t, rfl⟩ := ru
  have hsz : z.cps.size ≤ sizeLine := lim_sz hz
  refine PySem.call_list_str (I.ok.hd hc) z t (fun h' tk acc c' hk e hi => ?_) hsz
  have hl : acc.toList.length = z.cps.size := by rw [Array.length_toList]; exact hi.1
  have hv : Vals (chV z) acc.toList := by
    have e1 : chV z = (List.range acc.toList.length).map fun j => V.str ⟨#[z.cps.toList.getD j 0]⟩ := by
      unfold chV
      apply List.ext_getElem
      · rw [List.length_map, List.length_map, List.length_range, hl, Array.length_toList]
      · intro j h1 h2
        rw [List.length_map] at h1
        rw [List.getElem_map, List.getElem_map, List.getElem_range, List.getD_eq_getElem?_getD, List.getElem?_eq_getElem h1]
        rfl
    rw [e1]
    refine vals_of_get acc.toList _ fun j u hj => ?_
    obtain ⟨c, tu, h1, h2⟩ := hi.2 j u (by rw [← hj, Array.getElem?_toList])
    subst h2
    refine ⟨tu, ?_⟩
    have : z.cps.toList.getD j 0 = c := by
      rw [List.getD_eq_getElem?_getD, Array.getElem?_toList, h1]; rfl
    rw [this]
  refine ⟨.ref s.heap.objs.size, upd H s.heap.objs.size (.lst (chV z)), I.laid hk (Nat.le_refl _) (show ObjOk X.prog X.w _ _ _ (.lst (chV z)) from ⟨?_, acc.toList, c', hv, ?_⟩), rfl, q _ (I.hok.fresh (Nat.le_refl _))⟩
  · rw [hv.length, hl]; exact hsz
  · rw [Array.toArray_toList]; exact e
def gList1 : List D → Option D
  | [.lst ds] => some (.lst ds)
  | [.tup ds] => some (.lst ds)
  | [.str z] => if z.length ≤ LIM then some (.lst (chD z)) else none
  | _ => none
def rList1 (K : PySem.W.Frag) : List V → Hp → VK → Prop := fun xs H Q => (∃ p ys, xs = [.ref p] ∧ (SqL K H p ys ∨ SqT K H p ys) ∧ ∀ l, H l = none → Q (.ref l) (upd H l (.lst ys))) ∨ rListS xs H Q
theorem snd_list1 {K : PySem.W.Frag} : SndN K true (rList1 K) gList1 := fun G H xs ds d e h q Q k => by
  unfold gList1 at q
  split at q
  · cases q
    obtain ⟨v, rfl, hq⟩ := h.one
    obtain ⟨a, xs, rfl, s1, r1⟩ := hq.lst_inv
    exact .inl ⟨_, xs, rfl, .inl (.inl (.inl (e _ _ s1))), fun p hp => k _ _ (Ex.new hp) (new_rp e hp r1) (new_nn hp r1)⟩
  · cases q
    obtain ⟨v, rfl, hq⟩ := h.one
    obtain ⟨a, xs, rfl, s1, r1⟩ := hq.tup_inv
    exact .inl ⟨_, xs, rfl, .inr (.inl (.inl (e _ _ s1))), fun p hp => k _ _ (Ex.new hp) (new_rp e hp r1) (new_nn hp r1)⟩
  · split at q
    · cases q
      rename_i z hz
      obtain ⟨v, rfl, hq⟩ := h.one
      rw [hq.str_inv]
      exact .inr ⟨z, rfl, hz, fun p hp => k _ _ (Ex.new hp) (new_rp e hp (chs_rp _)) (new_nn (G := G) hp (chs_rp _))⟩
    · cases q
  · cases q
def asInts : List D → Option (List Int)
  | [] => some []
  | .int i :: r => (asInts r).map (i :: ·)
  | _ => none
theorem asInts_rp {K : PySem.W.Frag} {x : Bool} {G : Hp} : ∀ {xs : List V} {ds : List D} {ns : List Int}, RpL K x G xs ds → asInts ds = some ns → xs = ns.map V.int
  | _, _, _, .nil, q => by rw [asInts] at q; cases q; rfl
  | _, d :: ds, ns, .cons h r, q => by
    cases d with
    | int i =>
      rw [asInts] at q
      cases z : asInts ds with
      | none => rw [z] at q; cases q
      | some ms => rw [z] at q; cases q; rw [h.int_inv, asInts_rp r z]; rfl
    | _ => rw [asInts] at q <;> first | cases q | (intros; rintro ⟨⟩)
def inD (x : D) (ds : List D) : Bool := match x.toV with
  | some v => inV v (ds.filterMap D.toV)
  | none => false
theorem toVs_rp {K : PySem.W.Frag} {x : Bool} {G : Hp} : ∀ {xs : List V} {ds : List D}, RpL K x G xs ds → ds.all D.sc = true → xs = ds.filterMap D.toV
  | _, _, .nil, _ => rfl
  | _, d :: ds, .cons h r, hs => by
    rw [List.all_cons, Bool.and_eq_true] at hs
    rw [List.filterMap_cons, h.toV hs.1, ← toVs_rp r hs.2]
theorem flatV_of {d : D} {v : V} (h : d.toV = some v) : flatV v = true := by
  cases d <;> cases h <;> rfl
theorem flatV_all {K : PySem.W.Frag} {x : Bool} {G : Hp} : ∀ {xs : List V} {ds : List D}, RpL K x G xs ds → ds.all D.sc = true → xs.all flatV = true
  | _, _, .nil, _ => rfl
  | _, d :: ds, .cons h r, hs => by
    rw [List.all_cons, Bool.and_eq_true] at hs
    rw [List.all_cons, flatV_of (h.toV hs.1), flatV_all r hs.2]; rfl
def inOk (a b : D) : Option Bool := match b with
  | .lst ds => if a.sc && ds.all D.sc then some (inD a ds) else none
  | .tup ds => if a.sc && ds.all D.sc then some (inD a ds) else none
  | .str z => match a with
    | .str ⟨⟨[c]⟩⟩ => some (decide (c ∈ z.cps.toList))
    | _ => none
  | _ => none
def gNotIn (a b : D) : Option D := (inOk a b).map fun k => .bl (!k)
def rNotIn2 (K : PySem.W.Frag) : R2 := fun x y H Q => rIn K true x y H Q ∨ ∃ (c : Nat) (z : Str), x = .str ⟨#[c]⟩ ∧ y = .str z ∧ Q (.bl (!decide (c ∈ z.cps.toList))) H
theorem op_notIn2 {X : Cx} : OpR X (compareOp .NotIn) (rNotIn2 X.K) := op_notIn_seq.or op_notIn_sign
theorem inOk_cases {K : PySem.W.Frag} {G H : Hp} {x y : V} {a b : D} {k : Bool} (e : Ex G H) (h1 : Rp K true G x a) (h2 : Rp K true G y b) (q : inOk a b = some k) :
    (∃ p xs, y = .ref p ∧ (SqL K H p xs ∨ SqT K H p xs) ∧ flatV x = true ∧ xs.all flatV = true ∧ inV x xs = k) ∨ ∃ (c : Nat) (z : Str), x = .str ⟨#[c]⟩ ∧ y = .str z ∧ decide (c ∈ z.cps.toList) = k := by
  unfold inOk at q
  split at q
  · split at q
    · rename_i hs
      rw [Bool.and_eq_true] at hs
      cases q
      obtain ⟨p, xs, rfl, s1, r1⟩ := h2.lst_inv
      refine .inl ⟨p, xs, rfl, .inl (.inl (.inl (e _ _ s1))), flatV_of (h1.toV hs.1), flatV_all r1 hs.2, ?_⟩
      unfold inD
      rw [h1.toV hs.1, toVs_rp r1 hs.2]
    · cases q
  · split at q
    · rename_i hs
      rw [Bool.and_eq_true] at hs
      cases q
      obtain ⟨p, xs, rfl, s1, r1⟩ := h2.tup_inv
      refine .inl ⟨p, xs, rfl, .inr (.inl (.inl (e _ _ s1))), flatV_of (h1.toV hs.1), flatV_all r1 hs.2, ?_⟩
      unfold inD
      rw [h1.toV hs.1, toVs_rp r1 hs.2]
    · cases q
  · split at q
    · cases q
      exact .inr ⟨_, _, h1.str_inv, h2.str_inv, rfl⟩
    · cases q
  · cases q
theorem snd_notIn {K : PySem.W.Frag} : Snd2 K true (rNotIn2 K) gNotIn := fun G H x y d1 d2 d e h1 h2 q Q k => by
  unfold gNotIn at q
  cases z : inOk d1 d2 with
  | none => rw [z] at q; cases q
  | some b =>
    rw [z] at q
    cases q
    rcases inOk_cases e h1 h2 z with ⟨p, xs, a1, a2, a3, a4, t⟩ | ⟨c, z, a1, a2, t⟩
    · exact .inl ⟨p, xs, a1, a2, a3, a4, by rw [if_pos rfl, t]; exact k_sc k rfl⟩
    · exact .inr ⟨c, z, a1, a2, by rw [t]; exact k_sc k rfl⟩
end MV
namespace MV
open PySem L2
section
variable {cf : Cf} {R : Rs} {Hs : Hp} {env : PEnv} {σ : L2.St} {H : Hp} {F : Nat → List Addr} {wf : List Addr}
theorem get_set {α : Type} {l : List α} {i j : Nat} {x y : α} (h : (l.set i x)[j]? = some y) : (i = j ∧ x = y ∧ i < l.length) ∨ (i ≠ j ∧ l[j]? = some y) := by
  by_cases e : i = j
  · subst e
    by_cases hl : i < l.length
    · rw [List.getElem?_set_self hl] at h; exact .inl ⟨rfl, Option.some.inj h, hl⟩
    · rw [List.getElem?_eq_none (by rw [List.length_set]; omega)] at h; cases h
  · rw [List.getElem?_set_ne e] at h; exact .inr ⟨e, h⟩
theorem Rel.put (r : Rel cf R Hs env σ H F wf) {i : Nat} {v : V} {d : D} (hw : cf.kd i ≠ .W) (hs : ∀ F', SlotR cf.K R Hs H F' (cf.kd i) v d) : Rel cf R Hs (env.set i (some d)) (σ.set i (some v)) H F wf where
  len := by rw [List.length_set, List.length_set]; exact r.len
  exs := r.exs
  ex0 := r.ex0
  dom0 := r.dom0
  slot := fun j d' h => by
    rcases get_set h with ⟨rfl, e, hl⟩ | ⟨ne, h⟩
    · cases e
      exact ⟨v, by rw [List.getElem?_set_self (by rw [← r.len]; exact hl)], hs _⟩
    · obtain ⟨w, h1, h2⟩ := r.slot j d' h
      exact ⟨w, by rw [List.getElem?_set_ne ne]; exact h1, h2⟩
  nod := r.nod
  dis := r.dis
  fdom := r.fdom
  uns := r.uns
  new := r.new
  volw := r.volw
  volb := r.volb
  wdom := r.wdom
  ior := fun p h => by
    obtain ⟨h1, h2, h3, d', h4⟩ := r.ior p h
    have ne : i ≠ 0 := fun e => by subst e; exact hw h3
    exact ⟨by rw [List.getElem?_set_ne ne]; exact h1, h2, h3, d', by rw [List.getElem?_set_ne ne]; exact h4⟩
theorem Rel.mut (r : Rel cf R Hs env σ H F wf) {i : Nat} {p : Addr} {o' : HO} {v : V} {d0 d' : D} (hp : p ∈ F i) (he : env[i]? = some (some d0)) (hv : σ[i]? = some (some v)) (hs : SlotR cf.K R Hs (upd H p o') (F i) (cf.kd i) v d') : Rel cf R Hs (env.set i (some d')) σ (upd H p o') F wf where
  len := by rw [List.length_set]; exact r.len
  exs := fun a o h => by
    rw [upd_ne (fun e => by subst e; rw [r.uns i _ hp] at h; cases h)]; exact r.exs a o h
  ex0 := r.ex0
  dom0 := fun a h => by
    by_cases e : a = p
    · subst e; rw [upd_same]; exact fun z => by cases z
    · rw [upd_ne e]; exact r.dom0 a h
  slot := fun j d h => by
    rcases get_set h with ⟨rfl, e, hl⟩ | ⟨ne, h⟩
    · cases e
      exact ⟨v, hv, hs⟩
    · obtain ⟨w, h1, h2⟩ := r.slot j d h
      refine ⟨w, h1, ?_⟩
      have np : ∀ a ∈ F j, ∀ o, H a = some o → upd H p o' a = some o := fun a m o h => by
        rw [upd_ne (fun e => by subst e; exact r.dis i j ne _ hp m)]; exact h
      cases q : cf.kd j with
      | S => rw [q] at h2; exact h2
      | N => rw [q] at h2; exact h2
      | Q => rw [q] at h2; exact h2
      | P => rw [q] at h2; exact Own.keep (Ex.refl _) h2 np
      | M => rw [q] at h2; exact ⟨Own.keep (Ex.refl _) h2.1 np, h2.2⟩
      | W =>
        rw [q] at h2
        obtain ⟨p2, xs, ds, e1, e2, e3, e4, e5⟩ := h2
        exact ⟨p2, xs, ds, e1, e2, e3, np p2 (by rw [e3]; exact List.mem_singleton.mpr rfl) _ e4, e5⟩
  nod := r.nod
  dis := r.dis
  fdom := fun j a h => by
    by_cases e : a = p
    · subst e; rw [upd_same]; exact fun z => by cases z
    · rw [upd_ne e]; exact r.fdom j a h
  uns := r.uns
  new := r.new
  volw := r.volw
  volb := r.volb
  wdom := fun a h => by
    obtain ⟨h1, h2⟩ := r.wdom a h
    refine ⟨?_, h2⟩
    by_cases e : a = p
    · subst e; rw [upd_same]; exact fun z => by cases z
    · rw [upd_ne e]; exact h1
  ior := fun p h => by
    obtain ⟨h1, h2, h3, d'', h4⟩ := r.ior p h
    refine ⟨h1, h2, h3, ?_⟩
    by_cases e : i = 0
    · subst e
      have hl : 0 < env.length := (List.getElem?_eq_some_iff.mp he).1
      exact ⟨d', by rw [List.getElem?_set_self hl]⟩
    · exact ⟨d'', by rw [List.getElem?_set_ne e]; exact h4⟩
theorem Rel.own {env1 : PEnv} {Hs1 H1 : Hp} (r : Rel cf R Hs env σ H F wf) (s1 : Stp cf wf env Hs H env1 Hs1 H1) (r1 : Rel cf R Hs1 env1 σ H1 F wf) {i : Nat} {v : V} {d : D} {Fn wf' : List Addr} (hio : R.io ≠ none → i ≠ 0)
    (hn : Fn.Nodup) (hnew : ∀ a ∈ Fn, H a = none ∧ H1 a ≠ none) (hwf : ∀ a, a ∈ wf' ↔ a ∈ wf ∨ (cf.kd i = .W ∧ a ∈ Fn))
    (hs : SlotR cf.K R (rm Hs1 Fn) H1 Fn (cf.kd i) v d) : Rel cf R (rm Hs1 Fn) (env1.set i (some d)) (σ.set i (some v)) H1 (fun j => if j = i then Fn else F j) wf' ∧ Ex Hs (rm Hs1 Fn) := by
  have old : ∀ a, H a ≠ none → a ∉ Fn := fun a h m => h (hnew a m).1
  have exs : Ex Hs (rm Hs1 Fn) := fun a o h => by
    have : a ∉ Fn := old a (by rw [r.exs a o h]; exact fun z => by cases z)
    unfold rm
    rw [if_neg this]
    exact s1.ex a o h
  have sub : Ex (rm Hs1 Fn) Hs1 := rm_sub _ _
  refine ⟨?_, exs⟩
  constructor
  case len => rw [List.length_set, List.length_set]; exact r1.len
  case exs => exact sub.trans r1.exs
  case ex0 => exact fun a o h n => exs a o (r.ex0 a o h n)
  case dom0 => exact r1.dom0
  case slot =>
    intro j d' h
    rcases get_set h with ⟨rfl, e, hl⟩ | ⟨ne, h⟩
    · cases e
      exact ⟨v, by rw [List.getElem?_set_self (by rw [← r1.len]; exact hl)], by rw [if_pos rfl]; exact hs⟩
    · obtain ⟨w, h1, h2⟩ := r1.slot j d' h
      refine ⟨w, by rw [List.getElem?_set_ne ne]; exact h1, ?_⟩
      rw [if_neg (Ne.symm ne)]
      by_cases hw : cf.kd j = .W
      · rw [hw] at h2 ⊢; exact h2
      · have h' : env[j]? = some (some d') := by rw [← s1.kp j hw]; exact h
        obtain ⟨w0, g1, g2⟩ := r.slot j d' h'
        have ew : w0 = w := by rw [g1] at h1; cases h1; rfl
        subst ew
        cases q : cf.kd j with
        | S => rw [q] at g2; exact Rp.mono exs g2
        | N => rw [q] at g2; exact Rp.mono (rs_mono exs) g2
        | Q => rw [q] at g2; exact Rp.mono exs g2
        | P => rw [q] at g2; exact Own.keep (th_mono (rs_mono exs)) g2 fun a m o ha => s1.keep a o (r.volb j hw a m) ha
        | M => rw [q] at g2; exact ⟨Own.keep (rs_mono exs) g2.1 fun a m o ha => s1.keep a o (r.volb j hw a m) ha, g2.2⟩
        | W => exact absurd q hw
  case nod =>
    intro j
    by_cases e : j = i
    · rw [if_pos e]; exact hn
    · rw [if_neg e]; exact r.nod j
  case dis =>
    intro j k ne a m
    by_cases e : j = i
    · subst e
      rw [if_pos rfl] at m
      rw [if_neg (Ne.symm ne)]
      exact fun m2 => r.fdom k a m2 (hnew a m).1
    · rw [if_neg e] at m
      by_cases e2 : k = i
      · rw [if_pos e2]; exact old a (r.fdom j a m)
      · rw [if_neg e2]; exact r.dis j k ne a m
  case fdom =>
    intro j a m
    by_cases e : j = i
    · rw [if_pos e] at m; exact (hnew a m).2
    · rw [if_neg e] at m; exact r1.fdom j a m
  case uns =>
    intro j a m
    by_cases e : j = i
    · rw [if_pos e] at m; unfold rm; rw [if_pos m]
    · rw [if_neg e] at m
      unfold rm
      split
      · rfl
      · exact r1.uns j a m
  case new =>
    intro j a m
    by_cases e : j = i
    · rw [if_pos e] at m
      refine .inr ?_
      cases q : R.H0 a with
      | none => rfl
      | some o => exact absurd (hnew a m).1 (r.dom0 a (by rw [q]; exact fun z => by cases z))
    · rw [if_neg e] at m; exact r.new j a m
  case volw =>
    intro j hk a m
    rw [hwf]
    by_cases e : j = i
    · subst e; rw [if_pos rfl] at m; exact .inr ⟨hk, m⟩
    · rw [if_neg e] at m; exact .inl (r.volw j hk a m)
  case volb =>
    intro j hk a m z
    rcases (hwf a).mp z with z | ⟨z1, z2⟩
    · by_cases e : j = i
      · rw [if_pos e] at m; exact (r.wdom a z).1 (hnew a m).1
      · rw [if_neg e] at m; exact r.volb j hk a m z
    · by_cases e : j = i
      · subst e; exact hk z1
      · rw [if_neg e] at m; exact r.fdom j a m (hnew a z2).1
  case wdom =>
    intro a m
    rcases (hwf a).mp m with z | ⟨z1, z2⟩
    · obtain ⟨g1, g2⟩ := r1.wdom a z
      refine ⟨g1, ?_⟩
      unfold rm
      split
      · rfl
      · exact g2
    · refine ⟨(hnew a z2).2, ?_⟩
      unfold rm
      rw [if_pos z2]
  case ior =>
    intro p h
    obtain ⟨h1, h2, h3, d', h4⟩ := r1.ior p h
    have ne : i ≠ 0 := hio (by rw [h]; exact fun z => by cases z)
    exact ⟨by rw [List.getElem?_set_ne ne]; exact h1, by rw [if_neg (Ne.symm ne)]; exact h2, h3, d', by rw [List.getElem?_set_ne ne]; exact h4⟩
end
def SG (X : Cx) (cf : Cf) (W : WX) (c : Cls) (n : Bool) (i : Nat) (st : Stmt) (f : M D) : Prop := ∃ te, PS X st (tAsg te (gName i)) ∧ Sd cf W c n te f
def sSet (i : Nat) (f : M D) : M Fl := bnd f fun d => fun e => .ok .nx (e.set i (some d))
def mok : D → Bool
  | .lst ds => ds.all fun x => x.sc || match x with | .tup es => es.all D.sc | _ => false
  | d => d.sc
def sSetM (i : Nat) (f : M D) : M Fl := bnd f fun d => bnd (lift (if mok d then some d else none)) fun d => fun e => .ok .nx (e.set i (some d))
def wok : D → Bool
  | .lst ds => ds.all D.sc
  | _ => false
def sSetW (i : Nat) (f : M D) : M Fl := bnd f fun d => bnd (lift (if wok d then some d else none)) fun d => fun e => .ok .nx (e.set i (some d))
def eS (f : M D) : M D := bnd f fun d => lift (if d.sc then some d else none)
section
variable {X : Cx} {cf : Cf} {W : WX} {c : Cls} {n : Bool} {i : Nat}
theorem SE.scal {e : Expr} {te : TE} {f : M D} (h : SE X cf W c n e te f) : SE X cf W .V true e te (eS f) := by
  obtain ⟨p, s⟩ := h
  refine ⟨p, Sd.mk (fun R Hs env σ H F wf r d env' q Q k => ?_) (fun R Hs env σ H F wf r x env' q Q k => ?_)⟩
  · obtain ⟨d1, env1, q1, q⟩ := bnd_ok q
    obtain ⟨qg, rfl⟩ := lift_ok q
    split at qg
    · cases qg
      rename_i hs
      exact s.ok r q1 fun v Hs1 H1 s1 r1 p1 _ => k v Hs1 H1 s1 r1 (p1.sc_any hs _ _) fun _ _ => p1.sc_any hs _ _
    · cases qg
  · rcases bnd_ex q with q | ⟨d1, env1, q1, q⟩
    · exact s.exn r q k
    · exact (lift_ex q).elim
theorem Post.mono {R : Rs} {Hs Hs' : Hp} {D : Ends} (e : Ex Hs Hs') : ∀ {g : Res Fl}, Post cf W R Hs D g → Post cf W R Hs' D g
  | .ok .nx _, h => fun Hs2 σ' H' F' wf' e2 r => h Hs2 σ' H' F' wf' (e.trans e2) r
  | .ok (.rt _) _, h => fun v Hs2 σ' H' F' wf' e2 r => h v Hs2 σ' H' F' wf' (e.trans e2) r
  | .ok .bk _, h => fun Hs2 σ' H' F' wf' e2 r => h Hs2 σ' H' F' wf' (e.trans e2) r
  | .ok .ct _, h => fun Hs2 σ' H' F' wf' e2 r => h Hs2 σ' H' F' wf' (e.trans e2) r
  | .ex _ _, h => fun Hs2 σ' H' F' wf' e2 r => h Hs2 σ' H' F' wf' (e.trans e2) r
  | .stuck, h => h
theorem Sd.bind {te : TE} {f : M D} {g : D → M Fl} {R : Rs} {Hs : Hp} {env : PEnv} {σ : L2.St} {H : Hp} {F : Nat → List Addr} {wf : List Addr} {D : Ends} {Q : VK} (s : Sd cf W c n te f) (r : Rel cf R Hs env σ H F wf) (hp : Post cf W R Hs D (bnd f g env))
    (k : ∀ d env1 v Hs1 H1, Stp cf wf env Hs H env1 Hs1 H1 → Rel cf R Hs1 env1 σ H1 F wf → Rp cf.K true (rg c R.H0 Hs1 H H1 wf) v d → Nr cf.K n H Hs1 v d → Post cf W R Hs D (g d env1) → Q v H1) : te σ H Q := by
  unfold bnd at hp
  cases q : f env with
  | ok d env1 => rw [q] at hp; exact s.ok r q fun v Hs1 H1 s1 r1 p1 nr => k d env1 v Hs1 H1 s1 r1 p1 nr hp
  | ex x env1 => rw [q] at hp; exact s.exn r q fun Hs1 H1 s1 r1 => hp Hs1 σ H1 F wf s1.ex r1
  | stuck => rw [q] at hp; exact hp.elim
theorem SdT.bind {tt : TT} {f : M Bool} {g : Bool → M Fl} {R : Rs} {Hs : Hp} {env : PEnv} {σ : L2.St} {H : Hp} {F : Nat → List Addr} {wf : List Addr} {D : Ends} {Q : Bool → Hp → Prop} (s : SdT cf W tt f) (r : Rel cf R Hs env σ H F wf) (hp : Post cf W R Hs D (bnd f g env))
    (k : ∀ b env1 Hs1 H1, Stp cf wf env Hs H env1 Hs1 H1 → Rel cf R Hs1 env1 σ H1 F wf → Post cf W R Hs D (g b env1) → Q b H1) : tt σ H Q := by
  unfold bnd at hp
  cases q : f env with
  | ok d env1 => rw [q] at hp; exact s.ok r q fun Hs1 H1 s1 r1 => k d env1 Hs1 H1 s1 r1 hp
  | ex x env1 => rw [q] at hp; exact s.exn r q fun Hs1 H1 s1 r1 => hp Hs1 σ H1 F wf s1.ex r1
  | stuck => rw [q] at hp; exact hp.elim
theorem post_lift {α : Type} {o : Option α} {g : α → M Fl} {R : Rs} {Hs : Hp} {env : PEnv} {D : Ends} (hp : Post cf W R Hs D (bnd (lift o) g env)) : ∃ a, o = some a ∧ Post cf W R Hs D (g a env) := by
  cases o with
  | none => exact hp.elim
  | some a => exact ⟨a, rfl, hp⟩
theorem ss_setS {st : Stmt} {f : M D} (h : SG X cf W .S n i st f) (hk : cf.kd i = .S) : SS X cf W st (sSet i f) := by
  obtain ⟨te, p, s⟩ := h
  refine ⟨_, p, fun R Hs env σ H F wf r D hp => s.bind r hp fun d env1 v Hs1 H1 s1 r1 p1 _ hp => ?_⟩
  exact hp Hs1 _ H1 F wf s1.ex (r1.put (by rw [hk]; exact fun z => by cases z) fun F' => by rw [hk]; exact p1)
theorem ss_setN {st : Stmt} {f : M D} (h : SG X cf W .N n i st f) (hk : cf.kd i = .N) : SS X cf W st (sSet i f) := by
  obtain ⟨te, p, s⟩ := h
  refine ⟨_, p, fun R Hs env σ H F wf r D hp => s.bind r hp fun d env1 v Hs1 H1 s1 r1 p1 _ hp => ?_⟩
  exact hp Hs1 _ H1 F wf s1.ex (r1.put (by rw [hk]; exact fun z => by cases z) fun F' => by rw [hk]; exact p1)
theorem items_off {K : PySem.W.Frag} {A G : Hp} {p : Addr} {xs0 : List V} (hp : A p = some (.lst xs0)) (e : ∀ a o, a ≠ p → A a = some o → G a = some o) : ∀ {xs : List V} {ds : List D}, RpL K true A xs ds → (ds.all fun x => x.sc || match x with | .tup es => es.all D.sc | _ => false) = true → RpL K true G xs ds
  | _, _, .nil, _ => .nil
  | _, d :: ds, .cons h r, hs => by
    rw [List.all_cons, Bool.and_eq_true] at hs
    refine .cons ?_ (items_off hp e r hs.2)
    by_cases z : d.sc = true
    · exact h.sc_any z _ _
    · have h1 := hs.1
      rw [Bool.or_eq_true] at h1
      rcases h1 with h1 | h1
      · exact absurd h1 z
      · cases d with
        | tup es =>
          obtain ⟨a, ys, rfl, s1, r1⟩ := h.tup_inv
          have na : a ≠ p := fun z => by
            subst z
            have s1 : A a = some (.tup ys) := s1
            rw [hp] at s1; cases s1
          exact .tup (show G a = _ from e a _ na s1) (r1.sc_any h1 _ _)
        | _ => cases h1
theorem ss_setM {st : Stmt} {f : M D} (h : SG X cf W .V n i st f) (hk : cf.kd i = .M) : SS X cf W st (sSetM i f) := by
  obtain ⟨te, p, s⟩ := h
  refine ⟨_, p, fun R Hs env σ H F wf r D hp => s.bind r hp fun d env1 v Hs1 H1 s1 r1 p1 _ hp => ?_⟩
  obtain ⟨d', e, hp⟩ := post_lift hp
  split at e
  · cases e
    rename_i hm
    have p1 : Rp cf.K true (rs Hs1 H) v d := p1
    cases d with
    | lst ds =>
      obtain ⟨a, xs, rfl, h1, h2⟩ := p1.lst_inv
      have h1 : rs Hs1 H a = some (.lst xs) := h1
      have hna : H a = none := by
        cases z : H a with
        | none => rfl
        | some o => rw [rs_some z] at h1; cases h1
      rw [rs_none hna] at h1
      have hio : R.io ≠ none → i ≠ 0 := fun hh e => by
        cases z : R.io with
        | none => exact hh z
        | some q =>
          obtain ⟨_, _, h3, _⟩ := r.ior q z
          rw [← e, hk] at h3; cases h3
      obtain ⟨r2, e2⟩ := r.own s1 r1 (i := i) (v := .ref a) (d := .lst ds) (Fn := [a]) (wf' := wf) hio (by simp)
        (fun b m => by
          rw [List.mem_singleton.mp m]
          exact ⟨hna, by rw [r1.exs _ _ h1]; exact fun z => by cases z⟩)
        (fun b => ⟨.inl, fun z => z.elim id fun z => by rw [hk] at z; cases z.1⟩)
        (by
          rw [hk]
          refine ⟨Own.lst (r1.exs _ _ h1) (ownL_of ?_), fun z => (by cases z), Nat.le_refl _⟩
          refine items_off (A := rs Hs1 H) (p := a) (xs0 := xs) (by rw [rs_none hna]; exact h1) (fun b o nb hb => ?_) h2 hm
          have hb0 : H b = none := by
            cases z : H b with
            | none => rfl
            | some o => rw [rs_some z] at hb; cases hb
          rw [rs_none hb0] at hb
          have h00 : R.H0 b = none := by
            cases z : R.H0 b with
            | none => rfl
            | some o => exact absurd hb0 (r.dom0 b (by rw [z]; exact fun z => by cases z))
          rw [rs_none h00]
          unfold rm
          rw [if_neg (fun m => nb (List.mem_singleton.mp m))]
          exact hb)
      exact hp _ _ H1 _ wf e2 r2
    | _ =>
      obtain ⟨r2, e2⟩ := r.own s1 r1 (i := i) (v := v) (d := _) (Fn := []) (wf' := wf) (fun hh e => by
            cases z : R.io with
            | none => exact hh z
            | some q =>
              obtain ⟨_, _, h3, _⟩ := r.ior q z
              rw [← e, hk] at h3; cases h3) (by simp) (fun b m => by cases m) (fun b => ⟨.inl, fun z => z.elim id fun z => by cases z.2⟩) (by
            rw [hk]
            exact ⟨.leaf (p1.sc_any hm _ _), fun _ => hm, Nat.zero_le _⟩)
      exact hp _ _ H1 _ wf e2 r2
  · cases e
theorem ss_setW {st : Stmt} {f : M D} (h : SG X cf W .V n i st f) (hk : cf.kd i = .W) (h0 : i ≠ 0) : SS X cf W st (sSetW i f) := by
  obtain ⟨te, p, s⟩ := h
  refine ⟨_, p, fun R Hs env σ H F wf r D hp => s.bind r hp fun d env1 v Hs1 H1 s1 r1 p1 _ hp => ?_⟩
  obtain ⟨d', e, hp⟩ := post_lift hp
  split at e
  · cases e
    rename_i hm
    have p1 : Rp cf.K true (rs Hs1 H) v d := p1
    cases d with
    | lst ds =>
      obtain ⟨a, xs, rfl, h1, h2⟩ := p1.lst_inv
      have h1 : rs Hs1 H a = some (.lst xs) := h1
      have hna : H a = none := by
        cases z : H a with
        | none => rfl
        | some o => rw [rs_some z] at h1; cases h1
      rw [rs_none hna] at h1
      obtain ⟨r2, e2⟩ := r.own s1 r1 (i := i) (v := .ref a) (d := .lst ds) (Fn := [a]) (wf' := a :: wf) (fun _ => h0) (by simp)
        (fun b m => by
          rw [List.mem_singleton.mp m]
          exact ⟨hna, by rw [r1.exs _ _ h1]; exact fun z => by cases z⟩)
        (fun b => by
          rw [List.mem_cons, List.mem_singleton]
          exact ⟨fun z => z.elim (fun z => .inr ⟨hk, z⟩) .inl, fun z => z.elim .inr fun z => .inl z.2⟩)
        (by
          rw [hk]
          exact ⟨a, xs, ds, rfl, rfl, rfl, r1.exs _ _ h1, hm, h2.sc_any hm _ _⟩)
      exact hp _ _ H1 _ _ e2 r2
    | _ => cases hm
  · cases e
theorem sg_of {x : Str} {e : Expr} {te : TE} {f : M D} {pos' pos : Pos} (h : SE X cf W c n e te f) (hN : X.N.Nodup) (hi : X.N[i]? = some x) (hx : Loc X.env.scope x) (hs : swapsWith e (some (.Name x pos')) pos.line X.env = pure false := by rfl) (hf : X.fn x = true ∨ X.env.scope.names.lookup x = some .local := by first | exact .inl rfl | exact .inr rfl | assumption) :
    SG X cf W c n i (.Assign [.Name x pos'] e pos) f := by
  obtain ⟨p, s⟩ := h
  exact ⟨te, ps_set hN hi hx p hs hf, s⟩
theorem SG.le {c' : Cls} {st : Stmt} {f : M D} (h : SG X cf W c n i st f) (l : Cls.Le c c') : SG X cf W c' n i st f := let ⟨t, p, s⟩ := h; ⟨t, p, s.le l⟩
def sSkip : M Fl := ret .nx
def sSeq (a b : M Fl) : M Fl := bnd a fun f => match f with
  | .nx => b
  | o => ret o
def sDrop (f : M D) : M Fl := bnd f fun _ => ret .nx
def sRet (f : M D) : M Fl := bnd f fun d => ret (.rt d)
def sIf (t : M Bool) (a b : M Fl) : M Fl := bnd t fun k => if k then a else b
def sBrk : M Fl := ret .bk
def sCont : M Fl := ret .ct
theorem sss_nil : SSs X cf W [] sSkip := ⟨_, pss_nil, fun R Hs env σ H F wf r D hp => hp Hs σ H F wf (Ex.refl _) r⟩
theorem sds_seq {t u : TS} {a b : M Fl} (ha : SdS cf W t a) (hb : SdS cf W u b) : SdS cf W (tSeq t u) (sSeq a b) := by
  intro R Hs env σ H F wf r D hp
  refine ha R Hs env σ H F wf r { D with nx := u D } ?_
  unfold sSeq bnd at hp
  cases q : a env with
  | ok f env1 =>
    rw [q] at hp
    cases f with
    | nx => exact fun Hs' σ' H' F' wf' e r' => hb R Hs' env1 σ' H' F' wf' r' D (hp.mono e)
    | rt d => exact hp
    | bk => exact hp
    | ct => exact hp
  | ex x env1 => rw [q] at hp; exact hp
  | stuck => rw [q] at hp; exact hp
theorem sss_cons {st : Stmt} {rest : List Stmt} {a b : M Fl} (ha : SS X cf W st a) (hb : SSs X cf W rest b) : SSs X cf W (st :: rest) (sSeq a b) := let ⟨_, p, s⟩ := ha; let ⟨_, p2, s2⟩ := hb; ⟨_, pss_cons p p2, sds_seq s s2⟩
theorem sss_one {st : Stmt} {a : M Fl} (ha : SS X cf W st a) : SSs X cf W [st] a := let ⟨_, p, s⟩ := ha; ⟨_, pss_one p, s⟩
theorem ss_expr {e : Expr} {te : TE} {f : M D} {pos : Pos} (h : SE X cf W c n e te f) (hs : swapsWith e none pos.line X.env = pure false := by rfl) : SS X cf W (.Expr e pos) (sDrop f) := by
  obtain ⟨p, s⟩ := h
  exact ⟨_, ps_expr p hs, fun R Hs env σ H F wf r D hp => s.bind r hp fun d env1 v Hs1 H1 s1 r1 p1 _ hp => hp Hs1 σ H1 F wf s1.ex r1⟩
theorem ss_ret {e : Expr} {te : TE} {f : M D} {pos : Pos} (h : SE X cf W .L n e te f) : SS X cf W (.Return (some e) pos) (sRet f) := by
  obtain ⟨p, s⟩ := h
  exact ⟨_, ps_ret p, fun R Hs env σ H F wf r D hp => s.bind r hp fun d env1 v Hs1 H1 s1 r1 p1 _ hp => hp v Hs1 σ H1 F wf s1.ex r1 p1⟩
def sRetN : M Fl := ret (.rt .non)
theorem ss_if {e : Expr} {a b : List Stmt} {tt : TT} {ft : M Bool} {fa fb : M Fl} {pos : Pos} (ht : ST X cf W e tt ft) (ha : SSs X cf W a fa) (hb : SSs X cf W b fb) : SS X cf W (.If e a b pos) (sIf ft fa fb) := by
  obtain ⟨p, s⟩ := ht
  obtain ⟨ta, pa, sa⟩ := ha
  obtain ⟨tb, pb, sb⟩ := hb
  refine ⟨_, ps_if p pa pb, fun R Hs env σ H F wf r D hp => s.bind r hp fun k env1 Hs1 H1 s1 r1 hp => ?_⟩
  cases k with
  | true => exact sa R Hs1 env1 σ H1 F wf r1 D (Post.mono s1.ex hp)
  | false => exact sb R Hs1 env1 σ H1 F wf r1 D (Post.mono s1.ex hp)
def sAft (go : M Fl) : Fl → M Fl
  | .nx => go
  | .ct => go
  | .bk => ret .nx
  | .rt d => ret (.rt d)
def sWhile (t : M Bool) (b : M Fl) : Nat → M Fl
  | 0 => fail
  | n + 1 => bnd t fun k => if k then bnd b (sAft (sWhile t b n)) else ret .nx
theorem ss_while {e : Expr} {body : List Stmt} {tt : TT} {ft : M Bool} {fb : M Fl} {pos : Pos} (m : Nat) (hp : PassesOwn (model X.prog X.w) X.A X.env X.xe) (ht : ST X cf W e tt ft) (hb : SSs X cf W body fb) : SS X cf W (.While e body [] pos) (sWhile ft fb m) := by
  obtain ⟨p, s⟩ := ht
  obtain ⟨tb, pb, sb⟩ := hb
  refine ⟨_, ps_while hp p pb, fun R Hs env σ H F wf r D hp => ?_⟩
  refine ⟨fun m σ H => ∃ Hs1 env F wf, Ex Hs Hs1 ∧ Rel cf R Hs1 env σ H F wf ∧ Post cf W R Hs1 D (sWhile ft fb m env), ⟨m, Hs, env, F, wf, Ex.refl _, r, hp⟩, ?_⟩
  rintro m σ H ⟨Hs1, env, F, wf, e1, r, hp⟩
  cases m with
  | zero => exact hp.elim
  | succ m =>
    refine s.bind r hp fun k env1 Hs2 H2 s2 r2 hp => ?_
    have hp := Post.mono s2.ex hp
    cases k with
    | false => exact hp Hs2 σ H2 F wf (Ex.refl _) r2
    | true =>
      refine ⟨fun σ' H' => ∃ Hs3 env F wf, Ex Hs Hs3 ∧ Rel cf R Hs3 env σ' H' F wf ∧ Post cf W R Hs3 D (sWhile ft fb m env), fun σ' H' h => ⟨m, Nat.lt_succ_self m, h⟩, ?_⟩
      refine sb R Hs2 env1 σ H2 F wf r2 _ ?_
      have hp : Post cf W R Hs2 D (bnd fb (sAft (sWhile ft fb m)) env1) := hp
      unfold bnd at hp
      cases q : fb env1 with
      | ok f env2 =>
        rw [q] at hp
        cases f with
        | nx => exact fun Hs' σ' H' F' wf' e r' => ⟨Hs', env2, F', wf', (e1.trans s2.ex).trans e, r', Post.mono e hp⟩
        | ct => exact fun Hs' σ' H' F' wf' e r' => ⟨Hs', env2, F', wf', (e1.trans s2.ex).trans e, r', Post.mono e hp⟩
        | bk => exact fun Hs' σ' H' F' wf' e r' => hp Hs' σ' H' F' wf' e r'
        | rt d => exact hp
      | ex x env2 => rw [q] at hp; exact hp
      | stuck => rw [q] at hp; exact hp
end
end MV
namespace MV
open PySem L2
structure ItOk (K : PySem.W.Frag) (J : It) (Hs1 : Hp) (ds : List D) : Prop where
  go : ∀ i H, i < ds.length → Ex Hs1 H → J.go i H
  stop : ∀ H, Ex Hs1 H → J.stop ds.length H
  yld : ∀ i H x H', Ex Hs1 H → i < ds.length → J.yld i H x H' → Ex H H' ∧ ∀ G, Ex Hs1 G → Ex G H → ∃ d, ds[i]? = some d ∧ Rp K true (grow G H H') x d
def SdI (cf : Cf) (W : WX) (wi : TI) (fi : M (List D)) : Prop :=
  ∀ (R : Rs) (Hs : Hp) (env : PEnv) (σ : L2.St) (H : Hp) (F : Nat → List Addr) (wf : List Addr), Rel cf R Hs env σ H F wf → ∀ Rk : It → Hp → Prop,
    match fi env with
    | .ok ds env' => (∀ J Hs' H', Stp cf wf env Hs H env' Hs' H' → Rel cf R Hs' env' σ H' F wf → ItOk cf.K J Hs' ds → Rk J H') → wi σ H Rk
    | .ex x env' => (∀ Hs' H', Stp cf wf env Hs H env' Hs' H' → Rel cf R Hs' env' σ H' F wf → W (cf.cv x) none σ H') → wi σ H Rk
    | .stuck => True
structure SI (X : Cx) (cf : Cf) (W : WX) (tg iter : Expr) (wi : TI) (fi : M (List D)) : Prop where
  p : PI X tg iter wi
  s : SdI cf W wi fi
section
variable {K : PySem.W.Frag}
theorem itl_ok {a : Addr} {xs : List V} {ds : List D} {Hs1 : Hp} (h : Hs1 a = some (.lst xs)) (r : RpL K true Hs1 xs ds) : ItOk K (Itl K a) Hs1 ds where
  go := fun i H hi e => by
    have hi' : i < xs.length := by rw [r.length]; exact hi
    exact ⟨xs, xs[i], .inl (.inl (e _ _ h)), by simp [hi']⟩
  stop := fun H e => ⟨xs, .inl (.inl (e _ _ h)), by rw [r.length]; exact Nat.le_refl _⟩
  yld := fun i H x H' e hi y => by
    obtain ⟨rfl, y⟩ := y
    refine ⟨Ex.refl _, fun G eg e2 => ?_⟩
    obtain ⟨d, hd, hr⟩ := r.getV (y xs (.inl (.inl (e _ _ h))))
    exact ⟨d, hd, hr.mono (eg.trans (Ex.grow e2 (Ex.refl _)))⟩
def rngD (lo : Int) (n : Nat) : List D := (List.range n).map fun k => .int (lo + (k : Nat))
theorem rngD_len (lo : Int) (n : Nat) : (rngD lo n).length = n := by unfold rngD; rw [List.length_map, List.length_range]
theorem itr_ok {lo : Int} {n : Nat} {Hs1 : Hp} : ItOk K (Itr lo n) Hs1 (rngD lo n) where
  go := fun i H hi e => by rw [rngD_len] at hi; exact hi
  stop := fun H e => by rw [rngD_len]; exact Nat.le_refl _
  yld := fun i H x H' e hi y => by
    obtain ⟨rfl, rfl⟩ := y
    rw [rngD_len] at hi
    exact ⟨Ex.refl _, fun G eg e2 => ⟨.int (lo + i), by unfold rngD; simp [hi], .int _⟩⟩
def rngC (lo c : Int) (n : Nat) : List D := (List.range n).map fun k => .int (lo + (k : Nat) * c)
theorem rngC_len (lo c : Int) (n : Nat) : (rngC lo c n).length = n := by unfold rngC; rw [List.length_map, List.length_range]
theorem itc_ok {lo c : Int} {n : Nat} {Hs1 : Hp} : ItOk K (Itc lo c n) Hs1 (rngC lo c n) where
  go := fun i H hi e => by rw [rngC_len] at hi; exact hi
  stop := fun H e => by rw [rngC_len]; exact Nat.le_refl _
  yld := fun i H x H' e hi y => by
    obtain ⟨rfl, rfl⟩ := y
    rw [rngC_len] at hi
    exact ⟨Ex.refl _, fun G eg e2 => ⟨.int (lo + (i : Nat) * c), by unfold rngC; simp [hi], .int _⟩⟩
def enumD (ds : List D) : List D := ds.zipIdx.map fun p => .tup [.int (p.2 : Nat), p.1]
def zipD (as bs : List D) : List D := (as.zip bs).map fun p => .tup [p.1, p.2]
def strD (z : Str) : List D := z.cps.toList.map fun c => .str ⟨#[c]⟩
end
def asL : D → Option (List D)
  | .lst ds => some ds
  | _ => none
def asT : D → Option (List D)
  | .tup ds => some ds
  | _ => none
def asStr : D → Option (List D)
  | .str z => some (strD z)
  | _ => none
def iL (f : M D) : M (List D) := bnd f fun d => lift (asL d)
def iT (f : M D) : M (List D) := bnd f fun d => lift (asT d)
def iS (f : M D) : M (List D) := bnd f fun d => lift (asStr d)
def smallI (i : Int) : Bool := decide (-(2 ^ 62) ≤ i ∧ i < 2 ^ 62)
def gR1 : List D → Option (List D)
  | [.int j] => if smallI j then some (rngD 0 j.toNat) else none
  | _ => none
def gR2 : List D → Option (List D)
  | [.int i, .int j] => if smallI i && smallI j then some (rngD i (j - i).toNat) else none
  | _ => none
def gEn : List D → Option (List D)
  | [.lst ds] => some (enumD ds)
  | _ => none
def gZp : List D → Option (List D)
  | [.lst as, .lst bs] => some (zipD as bs)
  | _ => none
def iN (g : List D → Option (List D)) (a : M (List D)) : M (List D) := bnd a fun x => lift (g x)
section
variable {X : Cx} {cf : Cf} {W : WX} {c : Cls} {n : Bool} {tg : Expr}
theorem SdI.mk {wi : TI} {fi : M (List D)} (h1 : ∀ R Hs env σ H F wf, Rel cf R Hs env σ H F wf → ∀ ds env', fi env = .ok ds env' → ∀ Rk : It → Hp → Prop, (∀ J Hs' H', Stp cf wf env Hs H env' Hs' H' → Rel cf R Hs' env' σ H' F wf → ItOk cf.K J Hs' ds → Rk J H') → wi σ H Rk)
    (h2 : ∀ R Hs env σ H F wf, Rel cf R Hs env σ H F wf → ∀ x env', fi env = .ex x env' → ∀ Rk : It → Hp → Prop, (∀ Hs' H', Stp cf wf env Hs H env' Hs' H' → Rel cf R Hs' env' σ H' F wf → W (cf.cv x) none σ H') → wi σ H Rk) : SdI cf W wi fi := by
  intro R Hs env σ H F wf r Q
  cases q : fi env with
  | ok d env' => exact h1 R Hs env σ H F wf r d env' q Q
  | ex x env' => exact h2 R Hs env σ H F wf r x env' q Q
  | stuck => trivial
theorem asL_some {d : D} {ds : List D} (h : asL d = some ds) : d = .lst ds := by
  unfold asL at h; split at h <;> cases h; rfl
theorem si_list {e : Expr} {te : TE} {f : M D} (hK : cf.K = X.K) (h : SE X cf W .S n e te f) : SI X cf W tg e (iList cf.K te) (iL f) := by
  rw [hK]
  obtain ⟨p, s⟩ := h
  refine ⟨pi_list p, SdI.mk (fun R Hs env σ H F wf r ds env' q Rk k => ?_) (fun R Hs env σ H F wf r x env' q Rk k => ?_)⟩
  · obtain ⟨d1, env1, q1, q⟩ := bnd_ok q
    obtain ⟨qg, rfl⟩ := lift_ok q
    cases asL_some qg
    refine s.ok r q1 fun v Hs1 H1 s1 r1 p1 _ => ?_
    obtain ⟨a, xs, rfl, h1, h2⟩ := p1.lst_inv
    exact ⟨a, rfl, ⟨xs, .inl (.inl (r1.exs _ _ h1))⟩, k _ Hs1 H1 s1 r1 (by rw [← hK]; exact itl_ok h1 h2)⟩
  · rcases bnd_ex q with q | ⟨d1, env1, q1, q⟩
    · exact s.exn r q k
    · exact (lift_ex q).elim
theorem smallI_of {i : Int} (h : smallI i = true) : -(2 ^ 62) ≤ i ∧ i < 2 ^ 62 := of_decide_eq_true h
theorem si_range1 {a : Expr} {ta : TA} {fa : M (List D)} {p pos : Pos} (hg : Gl X "range") (hm : X.mg "range" = none) (ha : SA X cf W c [a] ta fa) (hs : starEach [a] X.env = [(false, eval a X.env)] := by rfl) : SI X cf W tg (.Call (.Name "range" p) [a] [] pos) (iRng1 ta) (iN gR1 fa) := by
  obtain ⟨q, s⟩ := ha
  refine ⟨pi_range1 hg hm q hs, SdI.mk (fun R Hs env σ H F wf r ds env' q Rk k => ?_) (fun R Hs env σ H F wf r x env' q Rk k => ?_)⟩
  · obtain ⟨d1, env1, q1, q⟩ := bnd_ok q
    obtain ⟨qg, rfl⟩ := lift_ok q
    unfold gR1 at qg
    split at qg
    · split at qg
      · rename_i hb
        cases qg
        refine s.ok r q1 fun v Hs1 H1 s1 r1 p1 => ?_
        obtain ⟨w, rfl, hw⟩ := p1.one
        exact ⟨_, by rw [hw.int_inv], (smallI_of hb).1, (smallI_of hb).2, k _ Hs1 H1 s1 r1 itr_ok⟩
      · cases qg
    · cases qg
  · rcases bnd_ex q with q | ⟨d1, env1, q1, q⟩
    · exact s.exn r q k
    · exact (lift_ex q).elim
def tgN (i : Nat) : D → M Unit := fun d e => .ok () (e.set i (some d))
def setAll : List Nat → List D → PEnv → Option PEnv
  | [], [], e => some e
  | i :: is, d :: ds, e => setAll is ds (e.set i (some d))
  | _, _, _ => none
def tgT (is : List Nat) : D → M Unit := fun d e => match d with
  | .tup ds => match setAll is ds e with
    | some e' => .ok () e'
    | none => .stuck
  | _ => .stuck
def SdG (cf : Cf) (is : List Nat) (g : TG) (tg : D → M Unit) : Prop :=
  ∀ (R : Rs) (Hs : Hp) (env : PEnv) (σ : L2.St) (H : Hp) (F : Nat → List Addr) (wf : List Addr), Rel cf R Hs env σ H F wf → ∀ (d : D) (v : V), Rp cf.K true Hs v d → ∀ Q : L2.St → Hp → Prop,
    match tg d env with
    | .ok _ env' => (∀ σ', Rel cf R Hs env' σ' H F wf → wipe σ' is = wipe σ is → (∀ j, j ∉ is → env'[j]? = env[j]?) → Q σ' H) → g v σ H Q
    | .ex _ _ => False
    | .stuck => True
structure SGt (X : Cx) (cf : Cf) (is : List Nat) (tg : Expr) (g : TG) (f : D → M Unit) : Prop where
  p : PG X tg g
  s : SdG cf is g f
theorem wipe_set (σ : L2.St) (i : Nat) (x : Option V) : ∀ is : List Nat, i ∈ is → wipe (σ.set i x) is = wipe σ is
  | [], h => by cases h
  | j :: is, h => by
    unfold wipe
    by_cases e : i ∈ is
    · rw [wipe_set σ i x is e]
    · have : i = j := (List.mem_cons.mp h).resolve_right e
      subst this
      have hh : ∀ is : List Nat, i ∉ is → wipe (σ.set i x) is = (wipe σ is).set i x := by
        intro is
        induction is with
        | nil => intro _; rfl
        | cons k is ih =>
          intro hn
          unfold wipe
          rw [ih (fun m => hn (List.mem_cons_of_mem _ m)), List.set_comm _ _ (fun e => hn (by rw [e]; exact List.mem_cons_self))]
      rw [hh is e, List.set_set]
theorem sgt_name {i : Nat} {x : Str} {pos : Pos} {is : List Nat} (hm : i ∈ is) (hk : cf.kd i = .S) (hN : X.N.Nodup) (hi : X.N[i]? = some x) (hx : Loc X.env.scope x) (hf : X.fn x = true ∨ X.env.scope.names.lookup x = some .local := by first | exact .inl rfl | exact .inr rfl | assumption) : SGt X cf is (.Name x pos) (gName i) (tgN i) :=
  ⟨pg_name hN hi hx hf, fun R Hs env σ H F wf r d v p Q k => k _ (r.put (by rw [hk]; exact fun z => by cases z) fun F' => by rw [hk]; exact p) (wipe_set σ i _ is hm) fun j hj => List.getElem?_set_ne (fun e => hj (by rw [← e]; exact hm))⟩
def SdGs (cf : Cf) (is js : List Nat) (g : TGs) : Prop :=
  ∀ (R : Rs) (Hs : Hp) (env : PEnv) (σ : L2.St) (H : Hp) (F : Nat → List Addr) (wf : List Addr), Rel cf R Hs env σ H F wf → ∀ (ds : List D) (vs : List V), RpL cf.K true Hs vs ds → ∀ Q : L2.St → Hp → Prop, ∀ env', setAll js ds env = some env' →
    (∀ σ', Rel cf R Hs env' σ' H F wf → wipe σ' is = wipe σ is → (∀ j, j ∉ is → env'[j]? = env[j]?) → Q σ' H) → g vs σ H Q
structure SGts (X : Cx) (cf : Cf) (is js : List Nat) (ts : List Expr) (g : TGs) : Prop where
  p : PGs X ts g
  s : SdGs cf is js g
theorem sgts_nil {is : List Nat} : SGts X cf is [] [] gNil := ⟨pgs_nil, fun R Hs env σ H F wf r ds vs p Q env' q k => by
  cases p with
  | nil => rw [setAll] at q; cases q; exact ⟨rfl, k σ r rfl fun _ _ => rfl⟩
  | cons _ _ => rw [setAll] at q <;> first | cases q | (intros; rintro ⟨⟩)⟩
theorem sgts_cons {is js : List Nat} {i : Nat} {x : Str} {pos : Pos} {es : List Expr} {g : TGs} (hm : i ∈ is) (hk : cf.kd i = .S) (hN : X.N.Nodup) (hi : X.N[i]? = some x) (hx : Loc X.env.scope x) (h2 : SGts X cf is js es g) (hf : X.fn x = true ∨ X.env.scope.names.lookup x = some .local := by first | exact .inl rfl | exact .inr rfl | assumption)
    (hs : (assignEach (.Name x pos :: es) X.env).map (·.2) = assign (.Name x pos) X.env :: (assignEach es X.env).map (·.2) := by rfl) : SGts X cf is (i :: js) (.Name x pos :: es) (gCons (gName i) g) := by
  obtain ⟨p, s⟩ := h2
  refine ⟨pgs_cons (pg_name hN hi hx hf) p hs, fun R Hs env σ H F wf r ds vs p Q env' q k => ?_⟩
  cases p with
  | nil => rw [setAll] at q <;> first | cases q | (intros; rintro ⟨⟩)
  | cons h1 h2 =>
    rw [setAll] at q
    refine ⟨_, _, rfl, ?_⟩
    refine s R Hs _ _ H F wf (r.put (by rw [hk]; exact fun z => by cases z) fun F' => by rw [hk]; exact h1) _ _ h2 Q env' q fun σ' r' w' kj => ?_
    exact k σ' r' (w'.trans (wipe_set σ i _ is hm)) fun j hj => (kj j hj).trans (List.getElem?_set_ne (fun e => hj (by rw [← e]; exact hm)))
theorem sgt_tup {is js : List Nat} {es : List Expr} {g : TGs} {k : Nat} {pos : Pos} (hK : cf.K = X.K) (hc : X.calm = true) (h : SGts X cf is js es g) (hl : es.length = js.length)
    (hn : (assignEach es X.env).length = js.length := by rfl) (hst : (assignEach es X.env).findIdx? (·.1) = none := by rfl) : SGt X cf is (.Tuple es k pos) (gTup cf.K js.length g) (tgT js) := by
  rw [hK]
  obtain ⟨p, s⟩ := h
  refine ⟨pg_tup hc p hn hst, fun R Hs env σ H F wf r d v p Q => ?_⟩
  cases d with
  | tup ds =>
    cases q : setAll js ds env with
    | none =>
      have e1 : tgT js (.tup ds) env = .stuck := by simp only [tgT, q]
      rw [e1]; trivial
    | some env' =>
      have e1 : tgT js (.tup ds) env = .ok () env' := by simp only [tgT, q]
      rw [e1]
      intro kk
      obtain ⟨a, xs, rfl, h1, h2⟩ := p.tup_inv
      have hlen : ∀ (js : List Nat) (ds : List D) (e e' : PEnv), setAll js ds e = some e' → ds.length = js.length := by
        intro js
        induction js with
        | nil => intro ds e e' q; cases ds with
          | nil => rfl
          | cons _ _ => rw [setAll] at q <;> first | cases q | (intros; rintro ⟨⟩)
        | cons j js ih => intro ds e e' q; cases ds with
          | nil => rw [setAll] at q <;> first | cases q | (intros; rintro ⟨⟩)
          | cons d ds => rw [setAll] at q; rw [List.length_cons, List.length_cons, ih ds _ _ q]
      refine ⟨a, xs, rfl, .inl (.inl (r.exs _ _ h1)), by rw [h2.length, hlen js ds env env' q], ?_⟩
      exact s R Hs env σ H F wf r ds xs h2 Q env' q kk
  | _ => unfold tgT; trivial
def sForL (tg : D → M Unit) (b : M Fl) : List D → M Fl
  | [] => ret .nx
  | d :: r => bnd (tg d) fun _ => bnd b (sAft (sForL tg b r))
def sFor (fi : M (List D)) (tg : D → M Unit) (b : M Fl) : M Fl := bnd fi fun ds => sForL tg b ds
theorem ss_for {iter : Expr} {body : List Stmt} {wi : TI} {g : TG} {fi : M (List D)} {is : List Nat} {ft : D → M Unit} {fb : M Fl} {pos : Pos} (hp : PassesOwn (model X.prog X.w) X.A X.env X.xe) (hc : X.calm = true) (hi : SI X cf W tg iter wi fi) (hg : SGt X cf is tg g ft) (hb : SSs X cf W body fb)
    (hs : ∀ x, foldedSetIterable iter X.env x = pure x := by intro _; rfl) : SS X cf W (.For tg iter body [] pos) (sFor fi ft fb) := by
  obtain ⟨pi, si⟩ := hi
  obtain ⟨pg, sg⟩ := hg
  obtain ⟨tb, pb, sb⟩ := hb
  refine ⟨_, ps_for hp hc pi pg pb hs, fun R Hs env σ H F wf r D hp => ?_⟩
  have h := si R Hs env σ H F wf r
  unfold sFor bnd at hp
  cases q : fi env with
  | stuck => rw [q] at hp; exact hp.elim
  | ex x env1 =>
    rw [q] at hp
    have h := h fun J H1 => ∃ W : Nat → Nat → L2.St → Hp → Prop, (∃ m, W 0 m σ H1) ∧ ∀ i m σ H, W i m σ H → (J.stop i H ∧ D.nx σ H) ∨ (J.go i H ∧ ∃ N : L2.St → Hp → Prop, (∀ σ' H', N σ' H' → ∃ m', m' < m ∧ W (i + 1) m' σ' H') ∧ ∀ x H', J.yld i H x H' → g x σ H' fun σ2 H2 => tb { D with nx := N, ct := N, bk := D.nx } σ2 H2)
    rw [q] at h
    exact h fun Hs1 H1 s1 r1 => hp Hs1 σ H1 F wf s1.ex r1
  | ok ds env1 =>
    rw [q] at hp
    have h := h fun J H1 => ∃ W : Nat → Nat → L2.St → Hp → Prop, (∃ m, W 0 m σ H1) ∧ ∀ i m σ H, W i m σ H → (J.stop i H ∧ D.nx σ H) ∨ (J.go i H ∧ ∃ N : L2.St → Hp → Prop, (∀ σ' H', N σ' H' → ∃ m', m' < m ∧ W (i + 1) m' σ' H') ∧ ∀ x H', J.yld i H x H' → g x σ H' fun σ2 H2 => tb { D with nx := N, ct := N, bk := D.nx } σ2 H2)
    rw [q] at h
    refine h fun J Hs1 H1 s1 r1 it => ?_
    refine ⟨fun i m σ H => ∃ Hs2 env2 F2 wf2, Ex Hs1 Hs2 ∧ Rel cf R Hs2 env2 σ H F2 wf2 ∧ i ≤ ds.length ∧ m = ds.length - i ∧ Post cf W R Hs2 D (sForL ft fb (ds.drop i) env2),
      ⟨ds.length, Hs1, env1, F, wf, Ex.refl _, r1, Nat.zero_le _, by simp, by rw [List.drop_zero]; exact Post.mono s1.ex hp⟩, ?_⟩
    rintro i m σ H ⟨Hs2, env2, F2, wf2, e2, r2, hi, rfl, hp⟩
    by_cases hlt : i < ds.length
    · refine .inr ⟨it.go i H hlt (e2.trans r2.exs), fun σ' H' => ∃ Hs3 env3 F3 wf3, Ex Hs1 Hs3 ∧ Rel cf R Hs3 env3 σ' H' F3 wf3 ∧ Post cf W R Hs3 D (sForL ft fb (ds.drop (i + 1)) env3), fun σ' H' hN => ?_, fun x H' y => ?_⟩
      · obtain ⟨Hs3, env3, F3, wf3, e3, r3, hp3⟩ := hN
        exact ⟨ds.length - (i + 1), by omega, Hs3, env3, F3, wf3, e3, r3, hlt, rfl, hp3⟩
      · obtain ⟨eg, hy⟩ := it.yld i H x H' (e2.trans r2.exs) hlt y
        obtain ⟨d, hd, hr⟩ := hy Hs2 e2 r2.exs
        have ed : ds.drop i = d :: ds.drop (i + 1) := by
          rw [List.drop_eq_getElem_cons hlt]
          rw [List.getElem?_eq_getElem hlt] at hd
          cases hd
          rfl
        rw [ed, sForL] at hp
        have r3 := r2.grow eg
        have e3 : Ex Hs2 (grow Hs2 H H') := Ex.grow r2.exs eg
        have hg := sg R _ env2 σ H' F2 wf2 r3 d x hr fun σ2 H2 => tb { D with nx := fun σ' H' => ∃ Hs3 env3 F3 wf3, Ex Hs1 Hs3 ∧ Rel cf R Hs3 env3 σ' H' F3 wf3 ∧ Post cf W R Hs3 D (sForL ft fb (ds.drop (i + 1)) env3), ct := fun σ' H' => ∃ Hs3 env3 F3 wf3, Ex Hs1 Hs3 ∧ Rel cf R Hs3 env3 σ' H' F3 wf3 ∧ Post cf W R Hs3 D (sForL ft fb (ds.drop (i + 1)) env3), bk := D.nx } σ2 H2
        cases qt : ft d env2 with
        | stuck =>
          rw [bnd_of_stuck qt] at hp; exact hp.elim
        | ex x env3 => rw [qt] at hg; exact hg.elim
        | ok u env3 =>
          rw [bnd_of_ok qt] at hp
          rw [qt] at hg
          refine hg fun σ2 r4 _ _ => ?_
          refine sb R _ env3 σ2 H' F2 wf2 r4 _ ?_
          have hp : Post cf W R _ D (bnd fb (sAft (sForL ft fb (ds.drop (i + 1)))) env3) := Post.mono e3 hp
          unfold bnd at hp
          cases qb : fb env3 with
          | ok f env4 =>
            rw [qb] at hp
            cases f with
            | nx => exact fun Hs' σ' H' F' wf' e r' => ⟨Hs', env4, F', wf', (e2.trans e3).trans e, r', Post.mono e hp⟩
            | ct => exact fun Hs' σ' H' F' wf' e r' => ⟨Hs', env4, F', wf', (e2.trans e3).trans e, r', Post.mono e hp⟩
            | bk => exact fun Hs' σ' H' F' wf' e r' => hp Hs' σ' H' F' wf' e r'
            | rt d => exact hp
          | ex x env4 => rw [qb] at hp; exact hp
          | stuck => rw [qb] at hp; exact hp
    · have e : i = ds.length := by omega
      subst e
      rw [List.drop_length] at hp
      exact .inl ⟨it.stop H (e2.trans r2.exs), hp Hs2 σ H F2 wf2 (Ex.refl _) r2⟩
end
end MV
namespace MV
open PySem L2
abbrev W0 : WX := fun _ _ _ _ => False
def wipeE : List Nat → PEnv → PEnv
  | [], e => e
  | v :: vs, e => (wipeE vs e).set v none
def restE : List Nat → PEnv → PEnv → PEnv
  | [], _, e1 => e1
  | v :: vs, e, e1 => (restE vs e e1).set v ((e[v]?).getD none)
theorem wipeE_len : ∀ (is : List Nat) (e : PEnv), (wipeE is e).length = e.length
  | [], _ => rfl
  | v :: vs, e => by unfold wipeE; rw [List.length_set, wipeE_len vs e]
theorem restE_len : ∀ (is : List Nat) (e e1 : PEnv), (restE is e e1).length = e1.length
  | [], _, _ => rfl
  | v :: vs, e, e1 => by unfold restE; rw [List.length_set, restE_len vs e e1]
theorem wipeE_get {is : List Nat} {e : PEnv} {j : Nat} {d : D} (h : (wipeE is e)[j]? = some (some d)) : e[j]? = some (some d) ∧ j ∉ is := by
  induction is with
  | nil => exact ⟨h, by simp⟩
  | cons v vs ih =>
    unfold wipeE at h
    rcases get_set h with ⟨_, z, _⟩ | ⟨ne, h⟩
    · cases z
    · obtain ⟨h1, h2⟩ := ih h
      exact ⟨h1, fun m => (List.mem_cons.mp m).elim (fun z => ne z.symm) h2⟩
theorem wipeE_out {is : List Nat} {e : PEnv} {j : Nat} (h : j ∉ is) : (wipeE is e)[j]? = e[j]? := by
  induction is with
  | nil => rfl
  | cons v vs ih =>
    unfold wipeE
    rw [List.getElem?_set_ne (fun z => h (by rw [z]; exact List.mem_cons_self)), ih fun m => h (List.mem_cons_of_mem _ m)]
theorem restE_out {is : List Nat} {e e1 : PEnv} {j : Nat} (h : j ∉ is) : (restE is e e1)[j]? = e1[j]? := by
  induction is with
  | nil => rfl
  | cons v vs ih =>
    unfold restE
    rw [List.getElem?_set_ne (fun z => h (by rw [z]; exact List.mem_cons_self)), ih fun m => h (List.mem_cons_of_mem _ m)]
theorem restE_in {is : List Nat} {e e1 : PEnv} {j : Nat} (h : j ∈ is) (hl : e.length = e1.length) : (restE is e e1)[j]? = e[j]? := by
  induction is with
  | nil => cases h
  | cons v vs ih =>
    unfold restE
    by_cases z : v = j
    · subst z
      by_cases hv : v < e.length
      · rw [List.getElem?_set_self (by rw [restE_len]; omega), List.getElem?_eq_getElem hv]; rfl
      · rw [List.getElem?_eq_none (by rw [List.length_set, restE_len]; omega), List.getElem?_eq_none (by omega)]
    · rw [List.getElem?_set_ne z]
      exact ih ((List.mem_cons.mp h).resolve_left fun q => z q.symm)
def lcGo (is : List Nat) (tg : D → M Unit) (tt : M Bool) (fe : M D) : List D → List D → M (List D)
  | [], acc => ret acc
  | d :: r, acc => bnd (tg d) fun _ => bnd tt fun k =>
      if k then bnd fe fun y => bnd (lift (if acc.length < LIM then some () else none)) fun _ => fun e => lcGo is tg tt fe r (acc ++ [y]) (wipeE is e)
      else fun e => lcGo is tg tt fe r acc (wipeE is e)
def eLc (is : List Nat) (fi : M (List D)) (tg : D → M Unit) (tt : M Bool) (fe : M D) : M D := bnd fi fun ds => fun e => match lcGo is tg tt fe ds [] (wipeE is e) with
  | .ok acc e1 => .ok (.lst acc) (restE is e e1)
  | _ => .stuck
def tTrue : M Bool := ret true
structure ItOkW (K : PySem.W.Frag) (J : It) (G1 Hs1 : Hp) (ds : List D) : Prop where
  go : ∀ i H, i < ds.length → Ex G1 H → J.go i H
  stop : ∀ H, Ex G1 H → J.stop ds.length H
  yld : ∀ i H x H', Ex G1 H → i < ds.length → J.yld i H x H' → Ex H H' ∧ ∀ G, Ex Hs1 G → Ex G H → ∃ d, ds[i]? = some d ∧ Rp K true (grow G H H') x d
theorem ItOk.w {K : PySem.W.Frag} {J : It} {Hs1 : Hp} {ds : List D} (h : ItOk K J Hs1 ds) : ItOkW K J Hs1 Hs1 ds := ⟨h.go, h.stop, h.yld⟩
def SdIB (cf : Cf) (W : WX) (wi : TI) (fi : M (List D)) : Prop :=
  ∀ (R : Rs) (Hs : Hp) (env : PEnv) (σ : L2.St) (H : Hp) (F : Nat → List Addr) (wf : List Addr), Rel cf R Hs env σ H F wf → ∀ Rk : It → Hp → Prop,
    match fi env with
    | .ok ds env' => (∀ J G1 Hs' H', Stp cf wf env Hs H env' Hs' H' → Rel cf R Hs' env' σ H' F wf → Ex G1 (rm H' wf) → ItOkW cf.K J G1 Hs' ds → Rk J H') → wi σ H Rk
    | .ex x env' => (∀ Hs' H', Stp cf wf env Hs H env' Hs' H' → Rel cf R Hs' env' σ H' F wf → W (cf.cv x) none σ H') → wi σ H Rk
    | .stuck => True
structure SIB (X : Cx) (cf : Cf) (W : WX) (tg iter : Expr) (wi : TI) (fi : M (List D)) : Prop where
  p : PI X tg iter wi
  s : SdIB cf W wi fi
section
variable {X : Cx} {cf : Cf} {W : WX} {c : Cls} {n n1 : Bool}
theorem SdI.w {wi : TI} {fi : M (List D)} (h : SdI cf W wi fi) : SdIB cf W wi fi := fun R Hs env σ H F wf r Rk => by
  have h := h R Hs env σ H F wf r Rk
  cases q : fi env with
  | ok ds env' => rw [q] at h; exact fun k => h fun J Hs' H' s r' it => k J Hs' Hs' H' s r' (rg_le (c := .S) (c' := .B) .sb (H0 := R.H0) (Hst := H) r'.exs r.dom0 fun a m => (r'.wdom a m).2) it.w
  | ex x env' => rw [q] at h; exact h
  | stuck => trivial
theorem SI.w {tg iter : Expr} {wi : TI} {fi : M (List D)} (h : SI X cf W tg iter wi fi) : SIB X cf W tg iter wi fi := ⟨h.p, h.s.w⟩
def asLs : D → Option (List D)
  | .lst ds => if ds.all D.sc then some ds else none
  | _ => none
def iLs (f : M D) : M (List D) := bnd f fun d => lift (asLs d)
theorem Rel.bump {R : Rs} {Hs : Hp} {env : PEnv} {σ : L2.St} {H : Hp} {F : Nat → List Addr} {wf : List Addr} {p : Addr} {o : HO} (r : Rel cf R Hs env σ H F wf) (hs : Hs p = none) (hF : ∀ i, p ∉ F i) : Rel cf R Hs env σ (upd H p o) F wf where
  len := r.len
  exs := fun a u h => by rw [upd_ne (fun e => by subst e; rw [hs] at h; cases h)]; exact r.exs a u h
  ex0 := r.ex0
  dom0 := fun a h => by
    by_cases e : a = p
    · subst e; rw [upd_same]; exact fun z => by cases z
    · rw [upd_ne e]; exact r.dom0 a h
  slot := fun j d h => by
    obtain ⟨w, h1, h2⟩ := r.slot j d h
    refine ⟨w, h1, ?_⟩
    have np : ∀ a ∈ F j, ∀ u, H a = some u → upd H p o a = some u := fun a m u h => by
      rw [upd_ne (fun e => by subst e; exact hF j m)]; exact h
    cases q : cf.kd j with
    | S => rw [q] at h2; exact h2
    | N => rw [q] at h2; exact h2
    | Q => rw [q] at h2; exact h2
    | P => rw [q] at h2; exact Own.keep (Ex.refl _) h2 np
    | M => rw [q] at h2; exact ⟨Own.keep (Ex.refl _) h2.1 np, h2.2⟩
    | W =>
      rw [q] at h2
      obtain ⟨p2, xs, ds, e1, e2, e3, e4, e5⟩ := h2
      exact ⟨p2, xs, ds, e1, e2, e3, np p2 (by rw [e3]; exact List.mem_singleton.mpr rfl) _ e4, e5⟩
  nod := r.nod
  dis := r.dis
  fdom := fun j a h => by
    by_cases e : a = p
    · subst e; rw [upd_same]; exact fun z => by cases z
    · rw [upd_ne e]; exact r.fdom j a h
  uns := r.uns
  new := r.new
  volw := r.volw
  volb := r.volb
  wdom := fun a h => by
    obtain ⟨h1, h2⟩ := r.wdom a h
    refine ⟨?_, h2⟩
    by_cases e : a = p
    · subst e; rw [upd_same]; exact fun z => by cases z
    · rw [upd_ne e]; exact h1
  ior := r.ior
theorem Rel.share {R : Rs} {Hs : Hp} {env : PEnv} {σ : L2.St} {H : Hp} {F : Nat → List Addr} {wf : List Addr} {p : Addr} {o : HO} (r : Rel cf R Hs env σ H F wf) (hs : Hs p = none) (hH : H p = some o) (hF : ∀ i, p ∉ F i) (hw : p ∉ wf) : Rel cf R (upd Hs p o) env σ H F wf where
  len := r.len
  exs := fun a u h => by
    by_cases e : a = p
    · subst e; rw [upd_same] at h; cases h; exact hH
    · rw [upd_ne e] at h; exact r.exs a u h
  ex0 := fun a u h n => Ex.new hs a u (r.ex0 a u h n)
  dom0 := r.dom0
  slot := fun j d h => by
    obtain ⟨w, h1, h2⟩ := r.slot j d h
    refine ⟨w, h1, ?_⟩
    cases q : cf.kd j with
    | S => rw [q] at h2; exact Rp.mono (Ex.new hs) h2
    | N => rw [q] at h2; exact Rp.mono (rs_mono (Ex.new hs)) h2
    | Q => rw [q] at h2; exact Rp.mono (Ex.new hs) h2
    | P => rw [q] at h2; exact Own.mono (th_mono (rs_mono (Ex.new hs))) (Ex.refl _) h2
    | M => rw [q] at h2; exact ⟨Own.mono (rs_mono (Ex.new hs)) (Ex.refl _) h2.1, h2.2⟩
    | W => rw [q] at h2; exact h2
  nod := r.nod
  dis := r.dis
  fdom := r.fdom
  uns := fun j a h => by rw [upd_ne (fun e => by subst e; exact hF j h)]; exact r.uns j a h
  new := r.new
  volw := r.volw
  volb := r.volb
  wdom := fun a h => ⟨(r.wdom a h).1, by rw [upd_ne (fun e => by subst e; exact hw h)]; exact (r.wdom a h).2⟩
  ior := r.ior
theorem Rel.wipe {R : Rs} {Hs : Hp} {env : PEnv} {σ σ' : L2.St} {H : Hp} {F : Nat → List Addr} {wf : List Addr} {is : List Nat} (r : Rel cf R Hs env σ H F wf) (hk : ∀ i ∈ is, cf.kd i = .S) (hw : L2.wipe σ is = L2.wipe σ' is) : Rel cf R Hs (wipeE is env) (L2.wipe σ' is) H F wf where
  len := by rw [wipeE_len, ← hw, wipe_length]; exact r.len
  exs := r.exs
  ex0 := r.ex0
  dom0 := r.dom0
  slot := fun j d h => by
    obtain ⟨h1, h2⟩ := wipeE_get h
    obtain ⟨v, h3, h4⟩ := r.slot j d h1
    exact ⟨v, by rw [← hw, wipe_out h2]; exact h3, h4⟩
  nod := r.nod
  dis := r.dis
  fdom := r.fdom
  uns := r.uns
  new := r.new
  volw := r.volw
  volb := r.volb
  wdom := r.wdom
  ior := fun p h => by
    obtain ⟨h1, h2, h3, d, h4⟩ := r.ior p h
    have n0 : 0 ∉ is := fun m => by rw [hk 0 m] at h3; cases h3
    exact ⟨by rw [← hw, wipe_out n0]; exact h1, h2, h3, d, by rw [wipeE_out n0]; exact h4⟩
theorem Rel.rest {R : Rs} {Hs0 Hs : Hp} {env0 env : PEnv} {σ : L2.St} {H0 H : Hp} {F : Nat → List Addr} {wf : List Addr} {is : List Nat} (r0 : Rel cf R Hs0 env0 σ H0 F wf) (r : Rel cf R Hs env (L2.wipe σ is) H F wf) (ex : Ex Hs0 Hs) (hk : ∀ i ∈ is, cf.kd i = .S) : Rel cf R Hs (restE is env0 env) σ H F wf where
  len := by rw [restE_len]; have := r.len; rw [wipe_length] at this; exact this
  exs := r.exs
  ex0 := r.ex0
  dom0 := r.dom0
  slot := fun j d h => by
    by_cases m : j ∈ is
    · rw [restE_in m (by have := r.len; rw [wipe_length] at this; rw [this, r0.len])] at h
      obtain ⟨v, h1, h2⟩ := r0.slot j d h
      rw [hk j m] at h2 ⊢
      exact ⟨v, h1, Rp.mono ex h2⟩
    · rw [restE_out m] at h
      obtain ⟨v, h1, h2⟩ := r.slot j d h
      exact ⟨v, (wipe_some h1).1, h2⟩
  nod := r.nod
  dis := r.dis
  fdom := r.fdom
  uns := r.uns
  new := r.new
  volw := r.volw
  volb := r.volb
  wdom := r.wdom
  ior := fun p h => by
    obtain ⟨h1, h2, h3, d, h4⟩ := r.ior p h
    have n0 : 0 ∉ is := fun m => by rw [hk 0 m] at h3; cases h3
    exact ⟨(wipe_some h1).1, h2, h3, d, by rw [restE_out n0]; exact h4⟩
def Cls.sh : Cls → Bool
  | .L => false
  | .B => false
  | _ => true
theorem rg_sh {c : Cls} (h : c.sh = true) {H0 Hs Hst H H' : Hp} {wf wf' : List Addr} : rg c H0 Hs Hst H wf = rg c H0 Hs Hst H' wf' := by
  cases c <;> first | rfl | cases h
theorem rg_shm {c : Cls} (h : c.sh = true) {H0 Hs Hs' Hst H H' : Hp} {wf wf' : List Addr} (e : Ex Hs Hs') : Ex (rg c H0 Hs Hst H wf) (rg c H0 Hs' Hst H' wf') := by
  cases c with
  | V => exact rs_mono e
  | N => exact rs_mono e
  | S => exact e
  | L => cases h
  | B => cases h
theorem sdt_true : SdT cf W tYes tTrue := fun R Hs env σ H F wf r Q k => k Hs H Stp.refl r
theorem sd_lc {wi : TI} {g : TG} {tt : TT} {te : TE} {is : List Nat} {fi : M (List D)} {tg : D → M Unit} {ft : M Bool} {fe : M D} (hc : c.sh = true) (hk : ∀ i ∈ is, cf.kd i = .S) (si : SdIB cf W wi fi) (sg : SdG cf is g tg) (st : SdT cf W0 tt ft) (se : Sd cf W0 c n1 te fe) : Sd cf W c true (tLc wi g tt te is) (eLc is fi tg ft fe) := by
  refine Sd.mk (fun R Hs env σ H F wf r d env' q Q k => ?_) (fun R Hs env σ H F wf r x env' q Q k => ?_)
  · obtain ⟨ds, env1, q1, q⟩ := bnd_ok q
    have h := si R Hs env σ H F wf r
    refine (show ∀ Rk : It → Hp → Prop, (∀ J G1 Hs' H', Stp cf wf env Hs H env1 Hs' H' → Rel cf R Hs' env1 σ H' F wf → Ex G1 (rm H' wf) → ItOkW cf.K J G1 Hs' ds → Rk J H') → wi σ H Rk from fun Rk kk => by
      have h := h Rk
      rw [q1] at h
      exact h kk) _ fun J G1 Hs1 H1 s1 r1 hG it => ?_
    intro Dp hD
    cases q2 : lcGo is tg ft fe ds [] (wipeE is env1) with
    | stuck => simp only [q2] at q; cases q
    | ex x e2 => simp only [q2] at q; cases q
    | ok acc e2 =>
    simp only [q2] at q
    cases q
    have rw0 : Rel cf R Hs1 (wipeE is env1) (L2.wipe σ is) H1 F wf := r1.wipe hk rfl
    have dF : ∀ i, Dp ∉ F i := fun i m => r1.fdom i Dp m hD
    have dW : Dp ∉ wf := fun m => (r1.wdom Dp m).1 hD
    have dS : Hs1 Dp = none := r1.exs.back hD
    have dst : H Dp = none := by
      cases z : H Dp with
      | none => rfl
      | some o => exact absurd hD (s1.dom Dp (by rw [z]; exact fun y => by cases y))
    refine ⟨fun i m H' => ∃ Hs2 env2 accV acc2, i ≤ ds.length ∧ m = ds.length - i ∧ Stp cf wf (wipeE is env1) Hs1 H1 env2 Hs2 H' ∧ Rel cf R Hs2 env2 (L2.wipe σ is) H' F wf ∧ H' Dp = some (.lst accV) ∧ Hs2 Dp = none ∧ RpL cf.K true (rg c R.H0 Hs2 H H1 wf) accV acc2 ∧ lcGo is tg ft fe (ds.drop i) acc2 env2 = .ok acc e2,
      ⟨ds.length, Hs1, wipeE is env1, [], [], Nat.zero_le _, by simp, ⟨fun a h => (Ex.new hD).dom h, Ex.refl _, fun a o _ h => Ex.new hD a o h, fun _ _ => rfl, fun _ _ => rfl⟩, rw0.bump dS dF, upd_same, dS, .nil, by rw [List.drop_zero]; exact q2⟩, ?_⟩
    rintro i m H' ⟨Hs2, env2, accV, acc2, hi, rfl, s2, r2, hD2, hS2, ra, q3⟩
    have e12 : Ex G1 H' := fun a o h => by
      have h := hG a o h
      unfold rm at h
      split at h
      · cases h
      · rename_i hw; exact s2.keep a o hw h
    by_cases hlt : i < ds.length
    · refine .inr ⟨it.go i H' hlt e12, fun H'' => ∃ Hs2 env2 accV acc2, Stp cf wf (wipeE is env1) Hs1 H1 env2 Hs2 H'' ∧ Rel cf R Hs2 env2 (L2.wipe σ is) H'' F wf ∧ H'' Dp = some (.lst accV) ∧ Hs2 Dp = none ∧ RpL cf.K true (rg c R.H0 Hs2 H H1 wf) accV acc2 ∧ lcGo is tg ft fe (ds.drop (i + 1)) acc2 env2 = .ok acc e2, fun H'' hN => ?_, fun x H3 y => ?_⟩
      · obtain ⟨Hs3, env3, accV3, acc3, z⟩ := hN
        exact ⟨ds.length - (i + 1), by omega, Hs3, env3, accV3, acc3, hlt, rfl, z⟩
      · obtain ⟨eg, hy⟩ := it.yld i H' x H3 e12 hlt y
        obtain ⟨d, hd, hr⟩ := hy Hs2 s2.ex r2.exs
        have ed : ds.drop i = d :: ds.drop (i + 1) := by
          rw [List.drop_eq_getElem_cons hlt]
          rw [List.getElem?_eq_getElem hlt] at hd
          cases hd
          rfl
        rw [ed, lcGo] at q3
        obtain ⟨u, env3, qt, q4⟩ := bnd_ok q3
        obtain ⟨b, env4, qb, q5⟩ := bnd_ok q4
        have r3 := r2.grow eg
        have s3 : Stp cf wf env2 Hs2 H' env2 (grow Hs2 H' H3) H3 := Stp.grow r2.exs eg
        have hD3 : H3 Dp = some (.lst accV) := eg _ _ hD2
        have hS3 : grow Hs2 H' H3 Dp = none := by rw [grow_some hD2]; exact hS2
        have hg := sg R _ env2 (L2.wipe σ is) H3 F wf r3 d x hr
        refine (show ∀ Q : L2.St → Hp → Prop, (∀ σ', Rel cf R (grow Hs2 H' H3) env3 σ' H3 F wf → L2.wipe σ' is = L2.wipe (L2.wipe σ is) is → (∀ j, j ∉ is → env3[j]? = env2[j]?) → Q σ' H3) → g x (L2.wipe σ is) H3 Q from fun Q kk => by
          have hg := hg Q
          rw [qt] at hg
          exact hg kk) _ fun σ2 r4 w4 kj => ?_
        have ww : L2.wipe (L2.wipe σ is) is = L2.wipe σ is := by
          have : ∀ (js : List Nat), (∀ j ∈ js, j ∈ is) → L2.wipe (L2.wipe σ is) js = L2.wipe σ is := by
            intro js
            induction js with
            | nil => intro _; rfl
            | cons v vs ih =>
              intro hj
              show (L2.wipe (L2.wipe σ is) vs).set v none = L2.wipe σ is
              rw [ih fun j m => hj j (List.mem_cons_of_mem _ m)]
              apply List.ext_getElem?
              intro j
              by_cases e : v = j
              · subst e
                by_cases hl : v < (L2.wipe σ is).length
                · rw [List.getElem?_set_self hl]
                  cases z : (L2.wipe σ is)[v]? with
                  | none => rw [List.getElem?_eq_getElem hl] at z; cases z
                  | some o =>
                    cases o with
                    | none => rfl
                    | some w => exact absurd (hj v List.mem_cons_self) (wipe_some z).2
                · rw [List.getElem?_eq_none (by rw [List.length_set]; omega), List.getElem?_eq_none (by omega)]
              · rw [List.getElem?_set_ne e]
          exact this is fun _ m => m
        rw [ww] at w4
        refine ⟨w4, ?_⟩
        have kp4 : ∀ j, cf.kd j ≠ .W → j ∉ is → env3[j]? = (wipeE is env1)[j]? := fun j hj hn => (kj j hn).trans (s2.kp j hj)
        refine st.ok r4 qb fun Hs5 H5 s5 r5 => ?_
        have hD5 : H5 Dp = some (.lst accV) := s5.keep _ _ dW hD3
        have hS5 : Hs5 Dp = none := by rw [s5.same Dp (by rw [hD3]; exact fun z => by cases z)]; exact hS3
        -- what holds behind a turn
        have fin : ∀ (Hs6 H6 : Hp) (env6 : PEnv) (accV6 : List V) (acc6 : List D), Stp cf wf env4 Hs5 H5 env6 Hs6 H6 → Rel cf R Hs6 env6 σ2 H6 F wf → RpL cf.K true (rg c R.H0 Hs6 H H1 wf) accV6 acc6 → lcGo is tg ft fe (ds.drop (i + 1)) acc6 (wipeE is env6) = .ok acc e2 → ∀ H7, (H7 = H6 ∧ accV6 = accV ∨ H7 = upd H6 Dp (.lst accV6)) →
            ∃ Hs2 env2 accV acc2, Stp cf wf (wipeE is env1) Hs1 H1 env2 Hs2 H7 ∧ Rel cf R Hs2 env2 (L2.wipe σ is) H7 F wf ∧ H7 Dp = some (.lst accV) ∧ Hs2 Dp = none ∧ RpL cf.K true (rg c R.H0 Hs2 H H1 wf) accV acc2 ∧ lcGo is tg ft fe (ds.drop (i + 1)) acc2 env2 = .ok acc e2 := by
          intro Hs6 H6 env6 accV6 acc6 s6 r6 ra6 q6 H7 h7
          have hD6 : H6 Dp = some (.lst accV) := s6.keep _ _ dW hD5
          have hS6 : Hs6 Dp = none := by rw [s6.same Dp (by rw [hD5]; exact fun z => by cases z)]; exact hS5
          have r6w : Rel cf R Hs6 (wipeE is env6) (L2.wipe σ is) H6 F wf := r6.wipe hk w4
          have kpw : ∀ j, cf.kd j ≠ .W → (wipeE is env6)[j]? = (wipeE is env1)[j]? := fun j hj => by
            by_cases m : j ∈ is
            · have hl : (wipeE is env6).length = (wipeE is env1).length := by rw [r6w.len, rw0.len]
              cases z : (wipeE is env6)[j]? with
              | none => rw [List.getElem?_eq_none_iff] at z; rw [List.getElem?_eq_none (by omega)]
              | some o =>
                cases o with
                | some w => exact absurd m (wipeE_get z).2
                | none =>
                  cases z2 : (wipeE is env1)[j]? with
                  | none => rw [List.getElem?_eq_none_iff] at z2; rw [List.getElem?_eq_none (by omega)] at z; cases z
                  | some o2 =>
                    cases o2 with
                    | some w => exact absurd m (wipeE_get z2).2
                    | none => rfl
            · rw [wipeE_out m, s6.kp j hj, s5.kp j hj, kp4 j hj m]
          have keep6 : ∀ a o, a ∉ wf → H1 a = some o → H6 a = some o := fun a o hw h => s6.keep a o hw (s5.keep a o hw (s3.keep a o hw (s2.keep a o hw h)))
          have dom6 : ∀ a, H1 a ≠ none → H6 a ≠ none := fun a h => s6.dom a (s5.dom a (s3.dom a (s2.dom a h)))
          have ex6 : Ex Hs1 Hs6 := ((s2.ex.trans s3.ex).trans s5.ex).trans s6.ex
          have same6 : ∀ a, H1 a ≠ none → Hs6 a = Hs1 a := fun a h => ((s6.same a (s5.dom a (s3.dom a (s2.dom a h)))).trans (s5.same a (s3.dom a (s2.dom a h)))).trans ((s3.same a (s2.dom a h)).trans (s2.same a h))
          rcases h7 with ⟨rfl, rfl⟩ | rfl
          · exact ⟨Hs6, wipeE is env6, accV6, acc6, ⟨dom6, ex6, keep6, same6, kpw⟩, r6w, hD6, hS6, ra6, q6⟩
          · refine ⟨Hs6, wipeE is env6, accV6, acc6, ⟨fun a h => ?_, ex6, fun a o hw h => ?_, same6, kpw⟩, r6w.bump hS6 dF, upd_same, hS6, ra6, q6⟩
            · have : a ≠ Dp := fun e => by subst e; exact h hD
              rw [upd_ne this]; exact dom6 a h
            · have : a ≠ Dp := fun e => by subst e; rw [hD] at h; cases h
              rw [upd_ne this]; exact keep6 a o hw h
        have ra5 : RpL cf.K true (rg c R.H0 Hs5 H H1 wf) accV acc2 := ra.mono (rg_shm hc (s3.ex.trans s5.ex))
        cases b with
        | false => exact fin Hs5 H5 env4 accV acc2 Stp.refl r5 ra5 q5 H5 (.inl ⟨rfl, rfl⟩)
        | true =>
          obtain ⟨y6, env6, qe, q6⟩ := bnd_ok q5
          obtain ⟨u2, env7, ql, q7⟩ := bnd_ok q6
          obtain ⟨ql, rfl⟩ := lift_ok ql
          split at ql
          · rename_i hl
            refine se.ok r5 qe fun v6 Hs6 H6 s6 r6 p6 _ => ?_
            refine ⟨accV, s6.keep _ _ dW hD5, by rw [ra.length]; exact lim_lt hl, ?_⟩
            have dd : ∀ a, H a ≠ none → H5 a ≠ none := fun a h => s5.dom a (s3.dom a (s2.dom a (s1.dom a h)))
            have p6' : Rp cf.K true (rg c R.H0 Hs6 H H1 wf) v6 y6 := by
              have := p6.mono (rg_start dd)
              rw [rg_sh hc (H' := H1) (wf' := wf)] at this
              exact this
            exact fin Hs6 H6 env7 (accV ++ [v6]) (acc2 ++ [y6]) s6 r6 ((ra5.mono (rg_shm hc s6.ex)).append (.cons p6' .nil)) q7 _ (.inr rfl)
          · cases ql
    · have e : i = ds.length := by omega
      subst e
      rw [List.drop_length, lcGo] at q3
      cases q3
      refine .inl ⟨it.stop H' e12, ?_⟩
      have exn : Ex Hs2 (upd Hs2 Dp (.lst accV)) := Ex.new hS2
      have r6 : Rel cf R (upd Hs2 Dp (.lst accV)) e2 (L2.wipe σ is) H' F wf := r2.share hS2 hD2 dF dW
      have r7 : Rel cf R (upd Hs2 Dp (.lst accV)) (restE is env1 e2) σ H' F wf := Rel.rest r1 r6 (s2.ex.trans exn) hk
      have hroot : rg c R.H0 (upd Hs2 Dp (.lst accV)) H H1 wf Dp = some (.lst accV) := by
        have h0 : R.H0 Dp = none := by
          cases z : R.H0 Dp with
          | none => rfl
          | some o => exact absurd hD (r1.dom0 Dp (by rw [z]; exact fun y => by cases y))
        cases c with
        | V => show rs _ _ Dp = _; rw [rs_none dst, upd_same]
        | N => show rs _ _ Dp = _; rw [rs_none h0, upd_same]
        | S => exact upd_same
        | L => cases hc
        | B => cases hc
      refine k (.ref Dp) (upd Hs2 Dp (.lst accV)) H' ⟨fun a h => s2.dom a (s1.dom a h), (s1.ex.trans s2.ex).trans exn, fun a o hw h => s2.keep a o hw (s1.keep a o hw h), fun a h => ?_, fun j hj => ?_⟩ r7 ?_ ?_
      · rw [upd_ne (fun e => by subst e; exact h dst), s2.same a (s1.dom a h), s1.same a h]
      · by_cases m : j ∈ is
        · rw [restE_in m (by have := r6.len; rw [wipe_length] at this; rw [this, r1.len])]; exact s1.kp j hj
        · rw [restE_out m, s2.kp j hj, wipeE_out m]; exact s1.kp j hj
      · rw [rg_sh hc (H' := H1) (wf' := wf)]
        exact .lst hroot (ra.mono (rg_shm hc exn))
      · intro _ hf
        refine .lst (show rs (upd Hs2 Dp (.lst accV)) H Dp = _ by rw [rs_none dst, upd_same]) (ra.sc_any hf _ _)
  · rcases bnd_ex q with q | ⟨ds, env1, q1, q⟩
    · have h := si R Hs env σ H F wf r
      have h := h fun J H1 => ∀ D, H1 D = none → ∃ W : Nat → Nat → Hp → Prop, (∃ m, W 0 m (upd H1 D (.lst []))) ∧ ∀ i m H, W i m H → (J.stop i H ∧ Q (.ref D) H) ∨ (J.go i H ∧ ∃ Nx : Hp → Prop, (∀ H', Nx H' → ∃ m', m' < m ∧ W (i + 1) m' H') ∧ ∀ x H', J.yld i H x H' → g x (L2.wipe σ is) H' fun σ2 H2 => L2.wipe σ2 is = L2.wipe σ is ∧ tt σ2 H2 fun b H3 => if b = true then te σ2 H3 fun y H4 => ∃ acc, H4 D = some (.lst acc) ∧ acc.length < sizeLine ∧ Nx (upd H4 D (.lst (acc ++ [y]))) else Nx H3)
      rw [q] at h
      exact h k
    · split at q <;> cases q
end
end MV
namespace MV
open PySem PySem.Spec PyProof.Rows L2
section
variable {X : Cx} {cf : Cf} {W : WX} {c : Cls} {n n1 n2 : Bool}
structure STs (X : Cx) (cf : Cf) (W : WX) (es : List Expr) (t : TT) (f : M Bool) : Prop where
  p : PTs X es t
  s : SdT cf W t f
theorem sts_nil : STs X cf W [] tYes tTrue := ⟨pts_nil, sdt_true⟩
theorem sts_one {e : Expr} {t : TT} {f : M Bool} (h : ST X cf W e t f) : STs X cf W [e] t f := ⟨pts_one h.p, h.s⟩
theorem se_lc {elt tg iter : Expr} {ifs : List Expr} {scope : Scope} {own : List (Str × Nat)} {pos : Pos} {wi : TI} {g : TG} {tt : TT} {te : TE} {fi : M (List D)} {ftg : D → M Unit} {ft : M Bool} {fe : M D} (hsh : c.sh = true) (hk : ∀ i ∈ own.map (·.2), cf.kd i = .S) (hc : X.calm = true) (hN : X.N.Nodup) (hi : SIB X cf W tg iter wi fi) (ok : BlkOk X.N X.env.scope scope own)
    (hg : ∀ (s : Shared) (H : Hp) (C : Addr) (cl : List (Str × Addr)) (fp : List Addr), SGt (X.blk s H scope (compEnvC scope cl C X.env) fp) cf (own.map (·.2)) tg g ftg) (ht : ∀ (s : Shared) (H : Hp) (C : Addr) (cl : List (Str × Addr)) (fp : List Addr), STs (X.blk s H scope (compEnvC scope cl C X.env) fp) cf W0 ifs tt ft)
    (he : ∀ (s : Shared) (H : Hp) (C : Addr) (cl : List (Str × Addr)) (fp : List Addr), SE (X.blk s H scope (compEnvC scope cl C X.env) fp) cf W0 c n1 elt te fe) (hs : ∀ x, foldedSetIterable iter X.env x = pure x := by intro _; rfl) :
    SE X cf W c true (.ListComp elt [⟨tg, iter, ifs, 0⟩] scope pos) (tLc wi g tt te (own.map (·.2))) (eLc (own.map (·.2)) fi ftg ft fe) :=
  ⟨pe_lc hc hN hi.p ok (fun s H C cl fp => (hg s H C cl fp).p) (fun s H C cl fp => (ht s H C cl fp).p) (fun s H C cl fp => (he s H C cl fp).p) hs,
   sd_lc hsh hk hi.s (hg X.s_0 X.H_0 0 [] []).s (ht X.s_0 X.H_0 0 [] []).s (he X.s_0 X.H_0 0 [] []).s⟩
theorem sg_lc {i : Nat} {y : Str} {py : Pos} {elt tg iter : Expr} {ifs : List Expr} {scope : Scope} {own : List (Str × Nat)} {pos spos : Pos} {wi : TI} {g : TG} {tt : TT} {te : TE} {fi : M (List D)} {ftg : D → M Unit} {ft : M Bool} {fe : M D} (hsh : c.sh = true) (hk : ∀ i ∈ own.map (·.2), cf.kd i = .S) (hc : X.calm = true) (hN : X.N.Nodup) (hy : X.N[i]? = some y) (hyl : X.env.scope.names.lookup y = some .local)
    (hsw : swapsWith (.ListComp elt [⟨tg, iter, ifs, 0⟩] scope pos) (some (.Name y py)) spos.line X.env = pure true) (hi : SIB X cf W tg iter wi fi) (ok : BlkOk X.N X.env.scope scope own)
    (hg : ∀ (s : Shared) (H : Hp) (C : Addr) (cl : List (Str × Addr)) (fp : List Addr), SGt (X.blk s H scope (compEnvC scope cl C X.env) fp) cf (own.map (·.2)) tg g ftg) (ht : ∀ (s : Shared) (H : Hp) (C : Addr) (cl : List (Str × Addr)) (fp : List Addr), STs (X.blk s H scope (compEnvC scope cl C X.env) fp) cf W0 ifs tt ft)
    (he : ∀ (s : Shared) (H : Hp) (C : Addr) (cl : List (Str × Addr)) (fp : List Addr), SE (X.blk s H scope (compEnvC scope cl C X.env) fp) cf W0 c n1 elt te fe) (hs : ∀ x, foldedSetIterable iter X.env x = pure x := by intro _; rfl) :
    SG X cf W c true i (.Assign [.Name y py] (.ListComp elt [⟨tg, iter, ifs, 0⟩] scope pos) spos) (eLc (own.map (·.2)) fi ftg ft fe) :=
  ⟨_, ps_setLc hc hN hy hyl hsw hi.p ok (fun s H C cl fp => (hg s H C cl fp).p) (fun s H C cl fp => (ht s H C cl fp).p) (fun s H C cl fp => (he s H C cl fp).p) hs,
   sd_lc hsh hk hi.s (hg X.s_0 X.H_0 0 [] []).s (ht X.s_0 X.H_0 0 [] []).s (he X.s_0 X.H_0 0 [] []).s⟩
theorem SG.flat {i : Nat} {st : Stmt} {f : M D} (h : SG X cf W c true i st f) : SG X cf W .V true i st (eF f) := by
  obtain ⟨t, p, s⟩ := h
  refine ⟨t, p, fun R Hs env σ H F wf r Q => ?_⟩
  have h := s R Hs env σ H F wf r Q
  cases q : f env with
  | ok d env' =>
    rw [q] at h
    cases hf : d.flat with
    | true =>
      have e1 : eF f env = .ok d env' := by simp [eF, bnd, lift, q, hf]
      rw [e1]
      exact fun k => h fun v Hs' H' st r' p nr => k v Hs' H' st r' (nr rfl hf) nr
    | false =>
      have e1 : eF f env = .stuck := by simp [eF, bnd, lift, q, hf]
      rw [e1]
      trivial
  | ex x env' =>
    rw [q] at h
    have e1 : eF f env = .ex x env' := by simp [eF, bnd, q]
    rw [e1]
    exact h
  | stuck =>
    have e1 : eF f env = .stuck := by simp [eF, bnd, q]
    rw [e1]
    trivial
def lstAt (i : Nat) (e : PEnv) : Option (List D) := match e[i]? with
  | some (some (.lst ds)) => some ds
  | _ => none
theorem lstAt_some {i : Nat} {e : PEnv} {ds : List D} (h : lstAt i e = some ds) : e[i]? = some (some (.lst ds)) := by
  unfold lstAt at h
  split at h
  · rename_i q; cases h; exact q
  · cases h
def sApp (i : Nat) (f : M D) : M Fl := fun e => match lstAt i e with
  | none => .stuck
  | some _ => bnd f (fun d => fun e => match lstAt i e with
    | some ds => if ds.length < LIM then .ok .nx (e.set i (some (.lst (ds ++ [d])))) else .stuck
    | none => .stuck) e
def sPut (i : Nat) (fv fi : M D) : M Fl := bnd fv fun d => fun e => match lstAt i e with
  | none => .stuck
  | some _ => bnd fi (fun k => fun e => match lstAt i e, k with
    | some ds, .int z => match ixN ds.length z with
      | some j => .ok .nx (e.set i (some (.lst (ds.set j d))))
      | none => .stuck
    | _, _ => .stuck) e
def sPutW (i : Nat) (fv fi : M D) : M Fl := bnd fv fun d => fun e => match lstAt i e with
  | none => .stuck
  | some _ => bnd fi (fun k => fun e => match lstAt i e, k with
    | some ds, .int z => match ixN ds.length z with
      | some j => if d.sc then .ok .nx (e.set i (some (.lst (ds.set j d)))) else .stuck
      | none => .stuck
    | _, _ => .stuck) e
theorem own_list {R : Rs} {Hs : Hp} {env : PEnv} {σ : L2.St} {H : Hp} {F : Nat → List Addr} {wf : List Addr} {i : Nat} {ds : List D} (r : Rel cf R Hs env σ H F wf) (hk : cf.kd i = .M) (h : env[i]? = some (some (.lst ds))) : ∃ p xs, σ[i]? = some (some (.ref p)) ∧ F i = [p] ∧ H p = some (.lst xs) ∧ RpL cf.K true (rs Hs R.H0) xs ds := by
  obtain ⟨v, h1, h2⟩ := r.slot i _ h
  rw [hk] at h2
  obtain ⟨h2, h3, h4⟩ := h2
  generalize hF : F i = L at h2 h3 h4
  cases h2 with
  | leaf _ => cases h3 rfl
  | lst h5 h6 =>
    rename_i F' _
    have e : F' = [] := by
      rw [List.length_cons] at h4
      exact List.length_eq_zero_iff.mp (by omega)
    subst e
    exact ⟨_, _, h1, rfl, h5, h6.leafs rfl⟩
theorem own_listW {R : Rs} {Hs : Hp} {env : PEnv} {σ : L2.St} {H : Hp} {F : Nat → List Addr} {wf : List Addr} {i : Nat} {d : D} (r : Rel cf R Hs env σ H F wf) (hk : cf.kd i = .W) (h : env[i]? = some (some d)) : ∃ p xs ds, d = .lst ds ∧ σ[i]? = some (some (.ref p)) ∧ F i = [p] ∧ H p = some (.lst xs) ∧ ds.all D.sc = true ∧ RpL cf.K true emp xs ds := by
  obtain ⟨v, h1, h2⟩ := r.slot i _ h
  rw [hk] at h2
  obtain ⟨p, xs, ds, e1, e2, e3, e4, e5, e6⟩ := h2
  subst e1
  exact ⟨p, xs, ds, e2, h1, e3, e4, e5, e6⟩
theorem OwnL.off {K : PySem.W.Frag} {Hn H : Hp} {p : Addr} {o : HO} {F : List Addr} {xs : List V} {ds : List D} (h : OwnL K Hn H F xs ds) (hp : p ∉ F) : OwnL K Hn (upd H p o) F xs ds := h.keep (Ex.refl _) fun a m u e => by
  rw [upd_ne (fun z => hp (by rw [← z]; exact m))]; exact e
theorem OwnL.length {K : PySem.W.Frag} {Hn H : Hp} : ∀ {F : List Addr} {xs : List V} {ds : List D}, OwnL K Hn H F xs ds → xs.length = ds.length
  | _, _, _, .nil => rfl
  | _, _, _, .cons _ r => by rw [List.length_cons, List.length_cons, OwnL.length r]
theorem ss_app {i : Nat} {o e : Expr} {te : TE} {f : M D} {apos cpos pos : Pos} (hK : cf.K = X.K) (po : PE X o (tVar i)) (hk : cf.kd i = .M) (h : SE X cf W .N n e te f)
    (hbase : attributeBase o "append" X.env (eval o X.env) = eval o X.env := by rfl)
    (hfew : ((backTo cpos (starEach [e] X.env)).all (fun x => !x.1) && (backToKw cpos (keywordEach [] X.env)).all (fun x => x.1.isSome) && decide ([e].length + ([] : List Keyword).length + (if ([] : List Keyword).isEmpty then 0 else 1) < 30)) = true := by rfl)
    (hline : (apos.endLine == cpos.line) = true := by rfl) (hs : starEach [e] X.env = (false, eval e X.env) :: starEach [] X.env := by rfl) (hplain : (backTo cpos (starEach [] X.env)).any (·.1) = false := by rfl)
    (hsw : swapsWith (.Call (.Attribute o "append" apos) [e] [] cpos) none pos.line X.env = pure false := by rfl) :
    SS X cf W (.Expr (.Call (.Attribute o "append" apos) [e] [] cpos) pos) (sApp i f) := by
  refine ⟨_, ps_expr (pe_bm PySem.F.plainAttrs_list PySem.F.slot_list_append PySem.F.type_list_append mt_append po (pa_cons h.p pa_nil hs) hbase hfew hline hs hplain) hsw, fun R Hs env σ H F wf r D hp => ?_⟩
  unfold sApp at hp
  cases q0 : lstAt i env with
  | none => simp only [q0] at hp; exact hp.elim
  | some ds0 =>
    simp only [q0] at hp
    obtain ⟨p0, xs0, a1, a2, a3, a4⟩ := own_list r hk (lstAt_some q0)
    refine ⟨.ref p0, a1, .inl ⟨rfl, xs0, .inl (.inl a3)⟩, ?_⟩
    refine h.s.bind r hp fun d env1 v Hs1 H1 s1 r1 p1 _ hp => ?_
    cases q : lstAt i env1 with
    | none => simp only [q] at hp; exact hp.elim
    | some ds =>
      simp only [q] at hp
      split at hp
      · rename_i hl
        obtain ⟨p, xs, h1, h2, h3, h4⟩ := own_list r1 hk (lstAt_some q)
        have ep : p = p0 := by rw [h1] at a1; cases a1; rfl
        subst ep
        refine ⟨p, xs, v, rfl, rfl, h3, by rw [h4.length]; exact lim_lt hl, ?_⟩
        exact hp Hs1 σ _ F wf s1.ex (r1.mut (i := i) (p := p) (v := .ref p) (d0 := .lst ds) (by rw [h2]; exact List.mem_cons_self) (lstAt_some q) h1 (by
            rw [hk, h2]
            exact ⟨Own.lst upd_same (ownL_of (h4.append (.cons p1 .nil))), fun z => (by cases z), Nat.le_refl _⟩))
      · exact hp.elim
theorem ss_putW {i : Nat} {o ix e : Expr} {te ti : TE} {f fi : M D} {spos pos : Pos} (po : PE X o (tVar i)) (hk : cf.kd i = .W) (h : SE X cf W c n e te f) (hi : SE X cf W c n1 ix ti fi)
    (ha : ∀ v, assign (.Subscript o ix spos) X.env v = (do
      let ov ← holding [v] (eval o X.env)
      let iv ← holding [v, ov] (eval ix X.env)
      standAt spos
      holding [v, ov, iv] (setItem ov iv v)
      release [v, ov, iv] []) := by intro _; rfl)
    (hs : swapsWithSole [.Subscript o ix spos] e pos.line X.env = pure false := by rfl) (hw : swappedStores [.Subscript o ix spos] e X.env = pure none := by rfl)
    (h1 : (assignEach [.Subscript o ix spos] X.env).map (·.2) = [assign (.Subscript o ix spos) X.env] := by rfl) :
    SS X cf W (.Assign [.Subscript o ix spos] e pos) (sPutW i f fi) := by
  refine ⟨_, ps_asg h.p (pg_sub po hi.p set_list ha) hs hw h1, fun R Hs env σ H F wf r D hp => ?_⟩
  refine h.s.bind r hp fun d env1 v Hs1 H1 s1 r1 p1 _ hp => ?_
  cases q0 : lstAt i env1 with
  | none => simp only [q0] at hp; exact hp.elim
  | some ds0 =>
    simp only [q0] at hp
    obtain ⟨p0, xs0, dz, _, a1, a2, a3, a4, a5⟩ := own_listW r1 hk (lstAt_some q0)
    refine ⟨.ref p0, a1, ?_⟩
    refine hi.s.bind r1 (Post.mono s1.ex hp) fun k env2 vk Hs2 H2 s2 r2 p2 _ hp => ?_
    cases q : lstAt i env2 with
    | none => simp only [q] at hp; exact hp.elim
    | some ds =>
      simp only [q] at hp
      cases k with
      | int z =>
        simp only at hp
        cases qj : ixN ds.length z with
        | none => simp only [qj] at hp; exact hp.elim
        | some j =>
          simp only [qj] at hp
          split at hp
          · rename_i hsc
            obtain ⟨p, xs, ds', e1, h1, h2, h3, h4, h5⟩ := own_listW r2 hk (lstAt_some q)
            cases e1
            have ep : p = p0 := by rw [h1] at a1; cases a1; rfl
            subst ep
            refine ⟨p, xs, z, j, rfl, p2.int_inv, h3, by rw [h5.length]; exact qj, ?_⟩
            exact hp Hs2 σ _ F wf s2.ex (r2.mut (i := i) (p := p) (v := .ref p) (d0 := .lst ds) (by rw [h2]; exact List.mem_cons_self) (lstAt_some q) h1 (by
                rw [hk, h2]
                refine ⟨p, _, _, rfl, rfl, rfl, upd_same, ?_, h5.set j (p1.sc_any hsc _ _)⟩
                rw [List.all_eq_true]
                intro y hy
                rcases List.mem_or_eq_of_mem_set hy with hy | hy
                · exact List.all_eq_true.mp h4 y hy
                · rw [hy]; exact hsc))
          · exact hp.elim
      | _ => exact hp.elim
def eIxW (i : Nat) (f : M D) : M D := fun e => match lstAt i e with
  | none => .stuck
  | some _ => bnd f (fun k => fun e => match lstAt i e, k with
    | some ds, .int z => lift (atI ds z) e
    | _, _ => .stuck) e
theorem atI_mem {α : Type} {l : List α} {i : Int} {x : α} (h : atI l i = some x) : x ∈ l := by
  obtain ⟨j, _, h2, _⟩ := atI_get h
  exact List.mem_of_getElem? h2
theorem se_ixW {i : Nat} {o ix : Expr} {ti : TE} {f : M D} {pos : Pos} (hK : cf.K = X.K) (po : PE X o (tVar i)) (hk : cf.kd i = .W) (h : SE X cf W c n ix ti f) (hs : PlainIx ix) : SE X cf W .V true (.Subscript o ix pos) (tOp (rIx cf.K) (tVar i) ti) (eIxW i f) := by
  rw [hK]
  refine ⟨pe_ix ix_seq po h.p hs, Sd.mk (fun R Hs env σ H F wf r d env' q Q k => ?_) (fun R Hs env σ H F wf r x env' q Q k => ?_)⟩
  · unfold eIxW at q
    cases q0 : lstAt i env with
    | none => simp only [q0] at q; cases q
    | some ds0 =>
      simp only [q0] at q
      obtain ⟨p0, xs0, dz, _, a1, a2, a3, a4, a5⟩ := own_listW r hk (lstAt_some q0)
      refine ⟨.ref p0, a1, ?_⟩
      obtain ⟨kd, env1, q1, q2⟩ := bnd_ok q
      refine h.s.ok r q1 fun v Hs1 H1 s1 r1 p1 _ => ?_
      cases q3 : lstAt i env1 with
      | none => simp only [q3] at q2; cases q2
      | some ds =>
        simp only [q3] at q2
        cases kd with
        | int z =>
          obtain ⟨qg, rfl⟩ := lift_ok q2
          obtain ⟨p, xs, ds', e1, h1, h2, h3, h4, h5⟩ := own_listW r1 hk (lstAt_some q3)
          cases e1
          have ep : p = p0 := by rw [h1] at a1; cases a1; rfl
          subst ep
          obtain ⟨w, hw, hr⟩ := atI_rp h5 qg
          have hsc : d.sc = true := List.all_eq_true.mp h4 d (atI_mem qg)
          exact .inl ⟨p, xs, z, w, rfl, p1.int_inv, .inl (.inl h3), hw, k w Hs1 H1 s1 r1 (hr.sc_any hsc _ _) fun _ _ => hr.sc_any hsc _ _⟩
        | _ => cases q2
  · unfold eIxW at q
    cases q0 : lstAt i env with
    | none => simp only [q0] at q; cases q
    | some ds0 =>
      simp only [q0] at q
      obtain ⟨p0, xs0, dz, _, a1, a2, a3, a4, a5⟩ := own_listW r hk (lstAt_some q0)
      refine ⟨.ref p0, a1, ?_⟩
      rcases bnd_ex q with q | ⟨kd, env1, q1, q2⟩
      · exact h.s.exn r q k
      · cases q3 : lstAt i env1 with
        | none => simp only [q3] at q2; cases q2
        | some ds =>
          simp only [q3] at q2
          cases kd with
          | int z => exact (lift_ex q2).elim
          | _ => cases q2
end
end MV
namespace MV
open PySem PySem.Spec PyProof.Rows L2
def spP (K : PySem.W.Frag) (cv : Str → Value) (m : Nat) (F : List D → FR) : Sp := fun vs H Q E => vs.length = m ∧ ∃ ds, RpL K true H vs ds ∧ match F ds with
  | .ok d _ => ∀ v H', Ex H H' → Rp K true (nw H H') v d → Q v H'
  | .ex x _ => ∀ H', Ex H H' → E (cv x) none H'
  | .stuck => False
def spW (K : PySem.W.Frag) (cv : Str → Value) (m : Nat) (F : List D → FR) : Sp := fun vs H Q E => vs.length = m ∧ ∃ p xs ds0 vs' ds, vs = .ref p :: vs' ∧ H p = some (.lst xs) ∧ ds0.all D.sc = true ∧ RpL K true emp xs ds0 ∧ RpL K true (rm H [p]) vs' ds ∧ match F (.lst ds0 :: ds) with
  | .ok d io => ∀ v H' xs' ds', io = .lst ds' → ds'.all D.sc = true → RpL K true emp xs' ds' → Ex (upd H p (.lst xs')) H' → Rp K true (nw H H') v d → Q v H'
  | .ex x io => ∀ H' xs' ds', io = .lst ds' → ds'.all D.sc = true → RpL K true emp xs' ds' → Ex (upd H p (.lst xs')) H' → E (cv x) none H'
  | .stuck => False
def spQ (K : PySem.W.Frag) (cv : Str → Value) (m : Nat) (F : List D → FR) : Sp := fun vs H Q E => vs.length = m ∧ ∃ v0 vs' d0 ds, vs = v0 :: vs' ∧ Rp K false H v0 d0 ∧ RpL K true H vs' ds ∧ match F (d0 :: ds) with
  | .ok d _ => ∀ v H', Ex H H' → Rp K true (nw H H') v d → Q v H'
  | .ex x _ => ∀ H', Ex H H' → E (cv x) none H'
  | .stuck => False
def frD (r : FR) : M D := fun e => match r with
  | .ok d _ => .ok d e
  | .ex x _ => .ex x e
  | .stuck => .stuck
def eCall (F : List D → FR) (a : M (List D)) : M D := bnd a fun ds => frD (F ds)
def frW (i : Nat) (r : FR) : M D := fun e => match r with
  | .ok d io => if wok io then .ok d (e.set i (some io)) else .stuck
  | .ex x io => if wok io then .ex x (e.set i (some io)) else .stuck
  | .stuck => .stuck
def eCallW (F : List D → FR) (i : Nat) (a : M (List D)) : M D := fun e => match lstAt i e with
  | none => .stuck
  | some _ => bnd a (fun ds => fun e => match lstAt i e with
    | some ds0 => frW i (F (.lst ds0 :: ds)) e
    | none => .stuck) e
section
variable {X : Cx} {cf : Cf} {W : WX} {c : Cls} {n n1 n2 : Bool}
theorem nw_rs {Hs H H1 H' : Hp} (d : ∀ a, H a ≠ none → H1 a ≠ none) : Ex (nw H1 H') (rs (grow Hs H1 H') H) := fun a o h => by
  cases q : H1 a with
  | some u => rw [nw_some q] at h; cases h
  | none =>
    rw [nw_none q] at h
    have : H a = none := by
      cases z : H a with
      | none => rfl
      | some u => exact absurd q (d a (by rw [z]; exact fun y => by cases y))
    rw [rs_none this, grow_none q]; exact h
theorem sd_call {F : List D → FR} {m : Nat} {ta : TA} {fa : M (List D)} (h : SdA cf W .B ta fa) (hm : ∀ ds env env', fa env = .ok ds env' → ds.length = m) : Sd cf W .V true (tCallS (spP cf.K cf.cv m F) (WE W) ta) (eCall F fa) := by
  refine Sd.mk (fun R Hs env σ H F0 wf r d env' q Q k => ?_) (fun R Hs env σ H F0 wf r x env' q Q k => ?_)
  · obtain ⟨ds, env1, q1, q2⟩ := bnd_ok q
    refine h.ok r q1 fun vs Hs1 H1 s1 r1 p1 => ?_
    refine ⟨by rw [p1.length]; exact hm _ _ _ q1, ds, p1.mono (rm_sub _ _), ?_⟩
    cases qf : F ds with
    | ok d' io =>
      rw [qf] at q2
      cases q2
      intro v H' x pv
      have pv' : Rp cf.K true (rs (grow Hs1 H1 H') H) v d := pv.mono (nw_rs s1.dom)
      exact k v (grow Hs1 H1 H') H' (s1.trans (Stp.grow r1.exs x)) (r1.grow x) pv' fun _ _ => pv'
    | ex x io => rw [qf] at q2; cases q2
    | stuck => rw [qf] at q2; cases q2
  · rcases bnd_ex q with q | ⟨ds, env1, q1, q2⟩
    · exact h.exn r q k
    · refine h.ok r q1 fun vs Hs1 H1 s1 r1 p1 => ?_
      refine ⟨by rw [p1.length]; exact hm _ _ _ q1, ds, p1.mono (rm_sub _ _), ?_⟩
      cases qf : F ds with
      | ok d' io => rw [qf] at q2; cases q2
      | ex x' io =>
        rw [qf] at q2
        cases q2
        intro H' x
        exact k (grow Hs1 H1 H') H' (s1.trans (Stp.grow r1.exs x)) (r1.grow x)
      | stuck => rw [qf] at q2; cases q2
theorem sd_callW {F : List D → FR} {m i : Nat} {ta : TA} {fa : M (List D)} (hk : cf.kd i = .W) (h : SdA cf W .B ta fa) (hm : ∀ ds env env', fa env = .ok ds env' → ds.length + 1 = m) : Sd cf W .V true (tCallS (spW cf.K cf.cv m F) (WE W) (tCons (tVar i) ta)) (eCallW F i fa) := by
  have args : ∀ {R : Rs} {Hs1 H1 : Hp} {env1 : PEnv} {σ : L2.St} {F0 : Nat → List Addr} {wf : List Addr} {vs : List V} {ds : List D} {p : Addr}, Rel cf R Hs1 env1 σ H1 F0 wf → F0 i = [p] → RpL cf.K true (rm H1 wf) vs ds → RpL cf.K true (rm H1 [p]) vs ds := fun {R Hs1 H1 env1 σ F0 wf vs ds p} r1 e pa => pa.mono fun a o ha => by
    unfold rm at ha ⊢
    split at ha
    · cases ha
    · rename_i hw
      rw [if_neg (fun m => hw (r1.volw i hk a (by rw [e]; exact m)))]
      exact ha
  have after : ∀ {R : Rs} {Hs1 H1 H' : Hp} {env1 : PEnv} {σ : L2.St} {F0 : Nat → List Addr} {wf : List Addr} {p : Addr} {xs' : List V} {ds0 ds' : List D}, Rel cf R Hs1 env1 σ H1 F0 wf → lstAt i env1 = some ds0 → σ[i]? = some (some (.ref p)) → F0 i = [p] → ds'.all D.sc = true → RpL cf.K true emp xs' ds' → Ex (upd H1 p (.lst xs')) H' →
      Stp cf wf env1 Hs1 H1 (env1.set i (some (.lst ds'))) (grow Hs1 H1 H') H' ∧ Rel cf R (grow Hs1 H1 H') (env1.set i (some (.lst ds'))) σ H' F0 wf := by
    intro R Hs1 H1 H' env1 σ F0 wf p xs' ds0 ds' r1 q0 hv hF hsc hr x
    have hp : p ∈ F0 i := by rw [hF]; exact List.mem_singleton.mpr rfl
    have r2 := r1.mut (i := i) (p := p) (o' := .lst xs') (v := .ref p) (d' := .lst ds') hp (lstAt_some q0) hv (by rw [hk, hF]; exact ⟨p, xs', ds', rfl, rfl, rfl, upd_same, hsc, hr⟩)
    have r3 := r2.grow x
    have eg : grow Hs1 (upd H1 p (.lst xs')) H' = grow Hs1 H1 H' := by
      funext a
      by_cases e : a = p
      · subst e
        have h1 : H1 a ≠ none := r1.fdom i a hp
        cases z : H1 a with
        | none => exact absurd z h1
        | some o => rw [grow_some z, grow_some (upd_same (H := H1) (a := a) (o := .lst xs'))]
      · unfold grow
        rw [upd_ne e]
    rw [eg] at r3
    refine ⟨⟨fun a h => ?_, ?_, fun a o hw h => ?_, fun a h => ?_, fun j hj => ?_⟩, r3⟩
    · by_cases e : a = p
      · subst e; exact x.dom (by rw [upd_same]; exact fun z => by cases z)
      · exact x.dom (by rw [upd_ne e]; exact h)
    · intro a o h
      rw [grow_some (r1.exs a o h)]; exact h
    · have : a ≠ p := fun e => by subst e; exact hw (r1.volw i hk _ hp)
      exact x a o (by rw [upd_ne this]; exact h)
    · cases z : H1 a with
      | none => exact absurd z h
      | some o => rw [grow_some z]
    · rw [List.getElem?_set_ne (fun e => by subst e; exact hj hk)]
  refine Sd.mk (fun R Hs env σ H F0 wf r d env' q Q k => ?_) (fun R Hs env σ H F0 wf r x env' q Q k => ?_)
  · unfold eCallW at q
    cases q0 : lstAt i env with
    | none => simp only [q0] at q; cases q
    | some ds00 =>
      simp only [q0] at q
      obtain ⟨p0, xs0, dz, _, a1, a2, a3, a4, a5⟩ := own_listW r hk (lstAt_some q0)
      refine ⟨.ref p0, a1, ?_⟩
      obtain ⟨ds, env1, q1, q2⟩ := bnd_ok q
      refine h.ok r q1 fun vs Hs1 H1 s1 r1 p1 => ?_
      cases q3 : lstAt i env1 with
      | none => simp only [q3] at q2; cases q2
      | some ds0 =>
        simp only [q3] at q2
        obtain ⟨p, xs, ds1, e1, h1, h2, h3, h4, h5⟩ := own_listW r1 hk (lstAt_some q3)
        cases e1
        have ep : p = p0 := by rw [h1] at a1; cases a1; rfl
        subst ep
        refine ⟨by rw [List.length_cons, p1.length]; exact hm _ _ _ q1, p, xs, ds0, vs, ds, rfl, h3, h4, h5, args r1 h2 p1, ?_⟩
        cases qf : F (.lst ds0 :: ds) with
        | ok d' io =>
          rw [qf] at q2
          unfold frW at q2
          simp only at q2
          split at q2
          · cases q2
            intro v H' xs' ds' eio hsc hr x pv
            subst eio
            obtain ⟨s2, r2⟩ := after r1 q3 h1 h2 hsc hr x
            have pv' : Rp cf.K true (rs (grow Hs1 H1 H') H) v d := pv.mono (nw_rs s1.dom)
            exact k v (grow Hs1 H1 H') H' (s1.trans s2) r2 pv' fun _ _ => pv'
          · cases q2
        | ex x io =>
          rw [qf] at q2
          unfold frW at q2
          simp only at q2
          split at q2 <;> cases q2
        | stuck => rw [qf] at q2; cases q2
  · unfold eCallW at q
    cases q0 : lstAt i env with
    | none => simp only [q0] at q; cases q
    | some ds00 =>
      simp only [q0] at q
      obtain ⟨p0, xs0, dz, _, a1, a2, a3, a4, a5⟩ := own_listW r hk (lstAt_some q0)
      refine ⟨.ref p0, a1, ?_⟩
      rcases bnd_ex q with q | ⟨ds, env1, q1, q2⟩
      · exact h.exn r q k
      · refine h.ok r q1 fun vs Hs1 H1 s1 r1 p1 => ?_
        cases q3 : lstAt i env1 with
        | none => simp only [q3] at q2; cases q2
        | some ds0 =>
          simp only [q3] at q2
          obtain ⟨p, xs, ds1, e1, h1, h2, h3, h4, h5⟩ := own_listW r1 hk (lstAt_some q3)
          cases e1
          have ep : p = p0 := by rw [h1] at a1; cases a1; rfl
          subst ep
          refine ⟨by rw [List.length_cons, p1.length]; exact hm _ _ _ q1, p, xs, ds0, vs, ds, rfl, h3, h4, h5, args r1 h2 p1, ?_⟩
          cases qf : F (.lst ds0 :: ds) with
          | ok d' io =>
            rw [qf] at q2
            unfold frW at q2
            simp only at q2
            split at q2 <;> cases q2
          | ex x' io =>
            rw [qf] at q2
            unfold frW at q2
            simp only at q2
            split at q2
            · cases q2
              intro H' xs' ds' eio hsc hr x
              subst eio
              obtain ⟨s2, r2⟩ := after r1 q3 h1 h2 hsc hr x
              exact k (grow Hs1 H1 H') H' (s1.trans s2) r2
            · cases q2
          | stuck => rw [qf] at q2; cases q2
theorem aLen_nil {ds : List D} {env env' : PEnv} (q : aNil env = .ok ds env') : ds.length = 0 := by cases q; rfl
theorem aLen_cons {fa : M D} {fr : M (List D)} {m : Nat} (h : ∀ ds env env', fr env = .ok ds env' → ds.length = m) {ds : List D} {env env' : PEnv} (q : aCons fa fr env = .ok ds env') : ds.length = m + 1 := by
  obtain ⟨d1, env1, q1, q⟩ := bnd_ok q
  obtain ⟨d2, env2, q2, q⟩ := bnd_ok q
  cases q
  rw [List.length_cons, h _ _ _ q2]
theorem se_call {F : List D → FR} {m k : Nat} {f : Addr} {fd : FuncData} {ps : List Str} {x : Str} {e : Expr} {es : List Expr} {ta : TA} {fa : M (List D)} {p pos : Pos} (hK : cf.K = X.K) (tk : L2N.Takes X W) (G : FnOk X.prog X.w X.K X.mg X.base (L2N.CX X.prog X.w) k f fd ps (spP X.K cf.cv m F)) (hr : Room k X.A) (hg : Gl X x) (hm : X.mg x = some (.ref f)) (hkp : PySem.W.keepIn X.K (.ref f) = true) (hb : Binds X.K fd ps []) (ha : SA X cf W .B (e :: es) ta fa) (hl : ∀ ds env env', fa env = .ok ds env' → ds.length = m)
    (hdb : (x == ("__debug__" : Str)) = false := by decide) (he : starEach (e :: es) X.env = (false, eval e X.env) :: starEach es X.env := by rfl) (hpl : (backTo pos (starEach es X.env)).any (·.1) = false := by rfl) :
    SE X cf W .V true (.Call (.Name x p) (e :: es) [] pos) (tCallS (spP cf.K cf.cv m F) (WE W) ta) (eCall F fa) := by
  refine ⟨?_, sd_call ha.s hl⟩
  rw [hK]
  exact pe_callS G hr hg hm hkp hb (fun σ => L2N.passAt tk σ) ha.p hdb he hpl
theorem se_callW {F : List D → FR} {m k i : Nat} {f : Addr} {fd : FuncData} {ps : List Str} {x : Str} {e : Expr} {es : List Expr} {ta : TA} {fa : M (List D)} {p pos : Pos} (hK : cf.K = X.K) (tk : L2N.Takes X W) (G : FnOk X.prog X.w X.K X.mg X.base (L2N.CX X.prog X.w) k f fd ps (spW X.K cf.cv m F)) (hr : Room k X.A) (hg : Gl X x) (hm : X.mg x = some (.ref f)) (hkp : PySem.W.keepIn X.K (.ref f) = true) (hb : Binds X.K fd ps []) (hk : cf.kd i = .W) (pe : PE X e (tVar i)) (ha : SA X cf W .B es ta fa) (hl : ∀ ds env env', fa env = .ok ds env' → ds.length + 1 = m)
    (hdb : (x == ("__debug__" : Str)) = false := by decide) (he : starEach (e :: es) X.env = (false, eval e X.env) :: starEach es X.env := by rfl) (hpl : (backTo pos (starEach es X.env)).any (·.1) = false := by rfl) :
    SE X cf W .V true (.Call (.Name x p) (e :: es) [] pos) (tCallS (spW cf.K cf.cv m F) (WE W) (tCons (tVar i) ta)) (eCallW F i fa) := by
  refine ⟨?_, sd_callW hk ha.s hl⟩
  rw [hK]
  exact pe_callS G hr hg hm hkp hb (fun σ => L2N.passAt tk σ) (pa_cons pe ha.p he) hdb he hpl
end
section
variable {P : Program} {w : World} {K : PySem.W.Frag} {mg : Str → Option Value} {base : Heap}
theorem start_get {N : List Str} {vs : List V} {i : Nat} {v : V} (h : vs[i]? = some v) : (L2.start N vs)[i]? = some (some v) := by
  unfold L2.start
  have hl : i < vs.length := (List.getElem?_eq_some_iff.mp h).1
  rw [List.getElem?_append_left (by rw [List.length_map]; exact hl), List.getElem?_map, h]
  rfl
theorem envOf_get {n : Nat} {ds : List D} {i : Nat} {d : D} (h : (envOf n ds)[i]? = some (some d)) : ds[i]? = some d := by
  unfold envOf at h
  by_cases hl : i < ds.length
  · rw [List.getElem?_append_left (by rw [List.length_map]; exact hl), List.getElem?_map] at h
    cases q : ds[i]? with
    | none => rw [q] at h; cases h
    | some d' => rw [q] at h; cases h; rfl
  · rw [List.getElem?_append_right (by rw [List.length_map]; omega), List.getElem?_replicate] at h
    split at h <;> cases h
theorem env_len {N : List Str} {ds : List D} {vs : List V} (h : vs.length = ds.length) : (envOf N.length ds).length = (L2.start N vs).length := by
  unfold envOf L2.start
  rw [List.length_append, List.length_append, List.length_map, List.length_map, List.length_replicate, List.length_replicate, h]
theorem okN {x qual : Str} {st : Stmt} {f : Addr} {fd : FuncData} {N ps : List Str} {k : Nat} {sp : Sp} (F : Fun K x qual st f fd) (S : FnScope N ps (defScope st)) (len : ∀ vs H Q E, sp vs H Q E → vs.length = ps.length)
    (hb : ∀ (cdv : Value) (A : Around) (outer : List Env) (s : Shared) (H : Hp) (vs : List V) (Q : VK) (E : XK), Room k (A.deeper (envOfC qual (defScope st) s.heap.objs.size f cdv)) → sp vs H Q E →
      ∃ t, PSs (cxOf (L2N.CX P w) P w K mg base N qual (defScope st) f cdv A outer s H E) (defBody st) t ∧ t { nx := fun _ H' => Q .non H', rt := Q } (L2.start N vs) H) : FnOk P w K mg base (L2N.CX P w) (k + 1) f fd ps sp := by
  obtain ⟨oc, od, kV, doc, pm, an, cdv, ct, osl, e, lk, hcd⟩ := F.ex
  subst e
  exact fn_of lk hcd S len fun A outer s H vs Q E hr h => hb cdv A outer s H vs Q E hr h
theorem takes0N {X : Cx} : L2N.Takes X (fun _ _ _ _ => False) := fun u s' x => by
  obtain ⟨a, B, sI, pins, σ, H, cls, d, _, _, _, _, _, _, _, _, z⟩ := x
  exact z.elim
theorem fn_P {x qual : Str} {st : Stmt} {f : Addr} {fd : FuncData} (N ps : List Str) (mN mP : Nat) {k : Nat} (cf : Cf) (g : M Fl) (hN : N.length = mN) (hP : ps.length = mP) (F : Fun K x qual st f fd) (S : FnScope N ps (defScope st)) (hK : cf.K = K) (hk : ∀ i, i < ps.length → cf.kd i = .S)
    (hbody : ∀ (cdv : Value) (A : Around) (outer : List Env) (s : Shared) (H : Hp) (E : XK), Room k (A.deeper (envOfC qual (defScope st) s.heap.objs.size f cdv)) → L2N.Takes (cxOf (L2N.CX P w) P w K mg base N qual (defScope st) f cdv A outer s H E) (fun cls d _ H => E cls d H) →
      PassesOwn (model P w) (A.deeper (envOfC qual (defScope st) s.heap.objs.size f cdv)) (envOfC qual (defScope st) s.heap.objs.size f cdv) (cxOf (L2N.CX P w) P w K mg base N qual (defScope st) f cdv A outer s H E).xe →
      SSs (cxOf (L2N.CX P w) P w K mg base N qual (defScope st) f cdv A outer s H E) cf (fun cls d _ H => E cls d H) (defBody st) g) :
    FnOk P w K mg base (L2N.CX P w) (k + 1) f fd ps (spP K cf.cv mP (runF mN g)) := by
  subst hN hP
  refine okN F S (fun vs H Q E h => h.1) (fun cdv A outer s H vs Q E hr h => ?_)
  obtain ⟨hl, ds, hd, h⟩ := h
  obtain ⟨t, p, sd⟩ := hbody cdv A outer s H E hr (L2N.takes_of rfl rfl rfl rfl) (passes_of rfl)
  refine ⟨t, p, ?_⟩
  have r : Rel cf ⟨H, none⟩ H (envOf N.length ds) (L2.start N vs) H (fun _ => []) [] :=
    { len := env_len hd.length
      exs := Ex.refl _
      ex0 := fun a o h _ => h
      dom0 := fun a h => h
      slot := fun i d q => by
        have q := envOf_get q
        obtain ⟨v, h1, h2⟩ := hd.get q
        refine ⟨v, start_get h1, ?_⟩
        rw [hk i (by rw [← hl, hd.length]; exact (List.getElem?_eq_some_iff.mp q).1), hK]
        exact h2
      nod := fun _ => List.nodup_nil
      dis := fun _ _ _ _ m => by cases m
      fdom := fun _ _ m => by cases m
      uns := fun _ _ m => by cases m
      new := fun _ _ m => by cases m
      volw := fun _ _ _ m => by cases m
      volb := fun _ _ _ m => by cases m
      wdom := fun _ m => by cases m
      ior := fun p h => by cases h }
  refine sd _ _ _ _ _ _ _ r _ ?_
  unfold runF at h
  have exH : ∀ {Hs' H' : Hp} {env' : PEnv} {σ' : L2.St} {F' : Nat → List Addr} {wf' : List Addr}, Rel cf ⟨H, none⟩ Hs' env' σ' H' F' wf' → Ex H H' := fun r' a o ha => r'.exs a o (r'.ex0 a o ha (fun z => by cases z))
  cases q : g (envOf N.length ds) with
  | stuck => rw [q] at h; exact h.elim
  | ex c e =>
    rw [q] at h
    exact fun Hs' σ' H' F' wf' _ r' => h H' (exH r')
  | ok fl e =>
    rw [q] at h
    cases fl with
    | nx => exact fun Hs' σ' H' F' wf' _ r' => h .non H' (exH r') .non
    | rt d => exact fun v Hs' σ' H' F' wf' _ r' pv => h v H' (exH r') (by
        rw [← hK]
        exact pv.mono fun a o ha => by
          have ha : rs (rm H' wf') H a = some o := ha
          cases z : H a with
          | none => rw [rs_none z] at ha; rw [nw_none z]; exact rm_sub _ _ a o ha
          | some u => rw [rs_some z] at ha; cases ha)
    | bk => exact h.elim
    | ct => exact h.elim
theorem ioOf_get {e : PEnv} {d : D} (h : e[0]? = some (some d)) : ioOf e = d := by
  cases e with
  | nil => cases h
  | cons a r =>
    have : a = some d := by simpa using h
    subst this
    rfl
theorem fn_W {x qual : Str} {st : Stmt} {f : Addr} {fd : FuncData} (N ps : List Str) (mN mP : Nat) {k : Nat} (cf : Cf) (g : M Fl) (hN : N.length = mN) (hP : ps.length = mP) (F : Fun K x qual st f fd) (S : FnScope N ps (defScope st)) (hK : cf.K = K) (h0 : cf.kd 0 = .W) (hk : ∀ i, 0 < i → i < ps.length → cf.kd i = .S)
    (hbody : ∀ (cdv : Value) (A : Around) (outer : List Env) (s : Shared) (H : Hp) (E : XK), Room k (A.deeper (envOfC qual (defScope st) s.heap.objs.size f cdv)) → L2N.Takes (cxOf (L2N.CX P w) P w K mg base N qual (defScope st) f cdv A outer s H E) (fun cls d _ H => E cls d H) →
      PassesOwn (model P w) (A.deeper (envOfC qual (defScope st) s.heap.objs.size f cdv)) (envOfC qual (defScope st) s.heap.objs.size f cdv) (cxOf (L2N.CX P w) P w K mg base N qual (defScope st) f cdv A outer s H E).xe →
      SSs (cxOf (L2N.CX P w) P w K mg base N qual (defScope st) f cdv A outer s H E) cf (fun cls d _ H => E cls d H) (defBody st) g) :
    FnOk P w K mg base (L2N.CX P w) (k + 1) f fd ps (spW K cf.cv mP (runF mN g)) := by
  subst hN hP
  refine okN F S (fun vs H Q E h => h.1) (fun cdv A outer s H vs Q E hr h => ?_)
  obtain ⟨hl, p, xs, ds0, vs', ds, rfl, hp, hsc, hr0, hd, h⟩ := h
  obtain ⟨t, pt, sd⟩ := hbody cdv A outer s H E hr (L2N.takes_of rfl rfl rfl rfl) (passes_of rfl)
  refine ⟨t, pt, ?_⟩
  have hpm : p ∈ [p] := List.mem_singleton.mpr rfl
  have r : Rel cf ⟨H, some p⟩ (rm H [p]) (envOf N.length (.lst ds0 :: ds)) (L2.start N (.ref p :: vs')) H (fun i => if i = 0 then [p] else []) [p] :=
    { len := env_len (by rw [List.length_cons, List.length_cons, hd.length])
      exs := rm_sub _ _
      ex0 := fun a o h n => by
        unfold rm
        rw [if_neg (fun m => n (by rw [List.mem_singleton.mp m]))]
        exact h
      dom0 := fun a h => h
      slot := fun i d q => by
        have q := envOf_get q
        cases i with
        | zero =>
          have q : D.lst ds0 = d := by simpa using q
          subst q
          refine ⟨.ref p, start_get rfl, ?_⟩
          rw [h0]
          exact ⟨p, xs, ds0, rfl, rfl, rfl, hp, hsc, by rw [hK]; exact hr0⟩
        | succ i =>
          have q : ds[i]? = some d := by simpa using q
          obtain ⟨v, h1, h2⟩ := hd.get q
          refine ⟨v, start_get (by simpa using h1), ?_⟩
          rw [hk (i + 1) (Nat.succ_pos i) (by rw [← hl, List.length_cons, hd.length]; exact Nat.succ_lt_succ (List.getElem?_eq_some_iff.mp q).1), hK]
          exact h2
      nod := fun i => by
        show (if i = 0 then [p] else []).Nodup
        split <;> simp
      dis := fun i j ne a m => by
        by_cases e : i = 0
        · rw [if_neg (fun z => ne (by rw [e, z]))]; exact fun z => by cases z
        · rw [if_neg e] at m; cases m
      fdom := fun i a m => by
        by_cases e : i = 0
        · rw [if_pos e] at m; rw [List.mem_singleton.mp m, hp]; exact fun z => by cases z
        · rw [if_neg e] at m; cases m
      uns := fun i a m => by
        by_cases e : i = 0
        · rw [if_pos e] at m; unfold rm; rw [if_pos m]
        · rw [if_neg e] at m; cases m
      new := fun i a m => by
        by_cases e : i = 0
        · rw [if_pos e] at m; exact .inl (by rw [List.mem_singleton.mp m])
        · rw [if_neg e] at m; cases m
      volw := fun i _ a m => by
        by_cases e : i = 0
        · rw [if_pos e] at m; exact m
        · rw [if_neg e] at m; cases m
      volb := fun i hw a m => by
        by_cases e : i = 0
        · subst e; exact absurd h0 hw
        · rw [if_neg e] at m; cases m
      wdom := fun a m => ⟨by rw [List.mem_singleton.mp m, hp]; exact (fun z => by cases z), by unfold rm; rw [if_pos m]⟩
      ior := fun q e => by
        cases e
        exact ⟨start_get rfl, if_pos rfl, h0, .lst ds0, by
          unfold envOf
          rfl⟩ }
  refine sd _ _ _ _ _ _ _ r _ ?_
  unfold runF at h
  have aft : ∀ {Hs' H' : Hp} {env' : PEnv} {σ' : L2.St} {F' : Nat → List Addr} {wf' : List Addr}, Rel cf ⟨H, some p⟩ Hs' env' σ' H' F' wf' → ∃ xs' ds', ioOf env' = .lst ds' ∧ ds'.all D.sc = true ∧ RpL K true emp xs' ds' ∧ Ex (upd H p (.lst xs')) H' := fun {Hs' H' env' σ' F' wf'} r' => by
    obtain ⟨g1, g2, g3, d, g4⟩ := r'.ior p rfl
    obtain ⟨v, s1, s2⟩ := r'.slot 0 d g4
    rw [h0] at s2
    obtain ⟨p2, xs', ds', e1, e2, e3, e4, e5, e6⟩ := s2
    rw [g2] at e3
    have e3 : p = p2 := by simpa using e3
    subst e3
    refine ⟨xs', ds', by rw [ioOf_get g4, e2], e5, by rw [← hK]; exact e6, fun a o ha => ?_⟩
    by_cases e : a = p
    · subst e; rw [upd_same] at ha; cases ha; exact e4
    · rw [upd_ne e] at ha
      exact r'.exs a o (r'.ex0 a o ha (fun z => by cases z; exact e rfl))
  cases q : g (envOf N.length (.lst ds0 :: ds)) with
  | stuck => rw [q] at h; exact h.elim
  | ex c e =>
    rw [q] at h
    intro Hs' σ' H' F' wf' _ r'
    obtain ⟨xs', ds', a1, a2, a3, a4⟩ := aft r'
    exact h H' xs' ds' a1 a2 a3 a4
  | ok fl e =>
    rw [q] at h
    cases fl with
    | nx =>
      intro Hs' σ' H' F' wf' _ r'
      obtain ⟨xs', ds', a1, a2, a3, a4⟩ := aft r'
      exact h .non H' xs' ds' a1 a2 a3 a4 .non
    | rt d =>
      intro v Hs' σ' H' F' wf' _ r' pv
      obtain ⟨xs', ds', a1, a2, a3, a4⟩ := aft r'
      refine h v H' xs' ds' a1 a2 a3 a4 ?_
      rw [← hK]
      exact pv.mono fun a o ha => by
        have ha : rs (rm H' wf') H a = some o := ha
        cases z : H a with
        | none => rw [rs_none z] at ha; rw [nw_none z]; exact rm_sub _ _ a o ha
        | some u => rw [rs_some z] at ha; cases ha
    | bk => exact h.elim
    | ct => exact h.elim
end
end MV
namespace MV
open PySem PySem.Spec PyProof.Rows L2
section
variable {X : Cx} {cf : Cf} {W : WX} {c ca cb : Cls} {n n1 n2 : Bool} {a b : Expr} {ta tb : TE} {fa fb : M D} {pos : Pos}
theorem se_add (ha : SE X cf W c n1 a ta fa) (hb : SE X cf W c n2 b tb fb) : SE X cf W c true (.BinOp a .Add b pos) (tOp rAdd3 ta tb) (e2 gAdd fa fb) := se_bin op_add3 snd_add ha hb
theorem se_mul (ha : SE X cf W c n1 a ta fa) (hb : SE X cf W c n2 b tb fb) : SE X cf W c true (.BinOp a .Mult b pos) (tOp rMul2 ta tb) (e2 gMul fa fb) := se_bin op_mul2 snd_mul ha hb
theorem sc_sub : ScF (e2 gSub fa fb) := gI2_sc fun i j d h => by cases h; rfl
theorem sc_fdiv : ScF (e2 gFdiv fa fb) := gI2_sc fun i j d h => by split at h <;> cases h; rfl
theorem sc_mod : ScF (e2 gMod fa fb) := gI2_sc fun i j d h => by split at h <;> cases h; rfl
theorem sc_pow : ScF (e2 gPow fa fb) := gI2_sc fun i j d h => by split at h <;> cases h; rfl
theorem sc_ge : ScF (e2 gGe fa fb) := gI2_sc fun i j d h => by cases h; rfl
theorem sc_map {o : Option Bool} {g : Bool → Bool} {d : D} (h : (o.map fun k => D.bl (g k)) = some d) : d.sc = true := by
  cases o with
  | none => cases h
  | some b => cases h; rfl
theorem sc_eq : ScF (e2 gEq fa fb) := e2_sc fun x y d h => sc_map (g := id) h
theorem sc_ne : ScF (e2 gNe fa fb) := e2_sc fun x y d h => sc_map h
theorem sc_notN : ScF (e2 gNotN fa fb) := e2_sc fun x y d h => by
  unfold gNotN at h
  split at h
  · exact sc_map h
  · cases h
theorem se_sub (ha : SE X cf W ca n1 a ta fa) (hb : SE X cf W cb n2 b tb fb) : SE X cf W .V true (.BinOp a .Sub b pos) (tOp (rI0 fun i j => .int (i - j)) ta tb) (e2 gSub fa fb) := (se_bin op_sub snd_sub ha.b hb.b).low sc_sub
theorem se_fdiv (ha : SE X cf W ca n1 a ta fa) (hb : SE X cf W cb n2 b tb fb) : SE X cf W .V true (.BinOp a .FloorDiv b pos) (tOp rFdiv ta tb) (e2 gFdiv fa fb) := (se_bin (op_fdiv.or op_fdivW) snd_fdiv ha.b hb.b).low sc_fdiv
theorem se_mod (ha : SE X cf W ca n1 a ta fa) (hb : SE X cf W cb n2 b tb fb) : SE X cf W .V true (.BinOp a .Mod b pos) (tOp (rI (fun _ j => 0 < j) fun i j => .int (i % j)) ta tb) (e2 gMod fa fb) := (se_bin op_mod snd_mod ha.b hb.b).low sc_mod
theorem se_pow (ha : SE X cf W ca n1 a ta fa) (hb : SE X cf W cb n2 b tb fb) : SE X cf W .V true (.BinOp a .Pow b pos) (tOp (rI CPow fun i j => .int (i ^ j.toNat)) ta tb) (e2 gPow fa fb) := (se_bin op_pow snd_pow ha.b hb.b).low sc_pow
theorem se_neg (ha : SE X cf W ca n1 a ta fa) : SE X cf W .V true (.UnaryOp .USub a pos) (tUn (rU fun i => .int (-i)) ta) (e1 gNeg fa) := (se_una un_neg snd_neg ha.b).low (e1_sc fun x d h => by
  unfold gNeg at h
  split at h <;> cases h; rfl)
theorem se_ge (ha : SE X cf W ca n1 a ta fa) (hb : SE X cf W cb n2 b tb fb) : SE X cf W .V true (.Compare a [.GtE] [b] pos) (tOp (rI0 fun i j => .bl (decide (j ≤ i))) ta tb) (e2 gGe fa fb) := (se_cmp op_ge snd_ge ha.b hb.b (nomark _)).low sc_ge
theorem se_eq (hK : cf.K = X.K) (hu : X.A.units + 64 < cLine) (ha : SE X cf W ca n1 a ta fa) (hb : SE X cf W cb n2 b tb fb) : SE X cf W .V true (.Compare a [.Eq] [b] pos) (tOp (rEq2 cf.K) ta tb) (e2 gEq fa fb) := by
  rw [hK]
  exact (se_cmp (op_eq2 hu) (by rw [hK]; exact snd_eq) ha.b hb.b (nomark _)).low sc_eq
theorem se_ne (hK : cf.K = X.K) (hu : X.A.units + 64 < cLine) (ha : SE X cf W ca n1 a ta fa) (hb : SE X cf W cb n2 b tb fb) : SE X cf W .V true (.Compare a [.NotEq] [b] pos) (tOp (rNe2 cf.K) ta tb) (e2 gNe fa fb) := by
  rw [hK]
  exact (se_cmp (op_ne2 hu) (by rw [hK]; exact snd_ne) ha.b hb.b (nomark _)).low sc_ne
theorem se_notN (ha : SE X cf W ca n1 a ta fa) (hb : SE X cf W cb n2 b tb fb) : SE X cf W .V true (.Compare a [.IsNot] [b] pos) (tOp (fun x y H Q => y = .non ∧ Q (.bl (!decide (x = .non))) H) ta tb) (e2 gNotN fa fb) := (se_cmp op_notN snd_notN ha.b hb.b (nomark _)).low sc_notN
theorem st_lt (ha : SE X cf W ca n1 a ta fa) (hb : SE X cf W cb n2 b tb fb) : ST X cf W (.Compare a [.Lt] [b] pos) (tTest (tOp (rI0 fun i j => .bl (decide (i < j))) ta tb)) (tB (e2 gLt fa fb)) := st_cmp op_lt snd_lt ha.b hb.b (nomark _)
theorem st_le (ha : SE X cf W ca n1 a ta fa) (hb : SE X cf W cb n2 b tb fb) : ST X cf W (.Compare a [.LtE] [b] pos) (tTest (tOp (rI0 fun i j => .bl (decide (i ≤ j))) ta tb)) (tB (e2 gLe fa fb)) := st_cmp op_le snd_le ha.b hb.b (nomark _)
theorem st_gt (ha : SE X cf W ca n1 a ta fa) (hb : SE X cf W cb n2 b tb fb) : ST X cf W (.Compare a [.Gt] [b] pos) (tTest (tOp (rI0 fun i j => .bl (decide (j < i))) ta tb)) (tB (e2 gGt fa fb)) := st_cmp op_gt snd_gt ha.b hb.b (nomark _)
theorem st_eq (hK : cf.K = X.K) (hu : X.A.units + 64 < cLine) (ha : SE X cf W ca n1 a ta fa) (hb : SE X cf W cb n2 b tb fb) : ST X cf W (.Compare a [.Eq] [b] pos) (tTest (tOp (rEq2 cf.K) ta tb)) (tB (e2 gEq fa fb)) := by
  rw [hK]
  exact st_cmp (op_eq2 hu) (by rw [hK]; exact snd_eq) ha.b hb.b (nomark _)
theorem st_ne (hK : cf.K = X.K) (hu : X.A.units + 64 < cLine) (ha : SE X cf W ca n1 a ta fa) (hb : SE X cf W cb n2 b tb fb) : ST X cf W (.Compare a [.NotEq] [b] pos) (tTest (tOp (rNe2 cf.K) ta tb)) (tB (e2 gNe fa fb)) := by
  rw [hK]
  exact st_cmp (op_ne2 hu) (by rw [hK]; exact snd_ne) ha.b hb.b (nomark _)
theorem st_isN (ha : SE X cf W ca n1 a ta fa) (hb : SE X cf W cb n2 b tb fb) : ST X cf W (.Compare a [.Is] [b] pos) (tTest (tOp (fun x y H Q => y = .non ∧ Q (.bl (decide (x = .non))) H) ta tb)) (tB (e2 gIsN fa fb)) := st_cmp op_isN snd_isN ha.b hb.b (nomark _)
theorem st_notIn (hK : cf.K = X.K) (ha : SE X cf W ca n1 a ta fa) (hb : SE X cf W cb n2 b tb fb) (hm : behindInMarks .NotIn b = false := by rfl) : ST X cf W (.Compare a [.NotIn] [b] pos) (tTest (tOp (rNotIn2 cf.K) ta tb)) (tB (e2 gNotIn fa fb)) := by
  rw [hK]
  exact st_cmp op_notIn2 (by rw [hK]; exact snd_notIn) ha.b hb.b hm
variable {p : Pos} {tA : TA} {fA : M (List D)} {e : Expr} {es : List Expr}
theorem SA.one (h : SE X cf W ca n1 a ta fa) (hs : starEach [a] X.env = (false, eval a X.env) :: starEach [] X.env := by rfl) : SA X cf W .B [a] (tCons ta tNil) (aCons fa aNil) := sa_cons h.b sa_nil hs
theorem scN {g : List D → Option D} (hg : ∀ x d, g x = some d → d.sc = true) : ScF (eN g fA) := eN_sc hg
theorem sc_len (x : List D) (d : D) (h : gLen x = some d) : d.sc = true := by
  unfold gLen at h
  split at h
  · cases h; rfl
  · cases h; rfl
  · split at h <;> cases h; rfl
  · cases h
theorem sc_max2 (x : List D) (d : D) (h : gMax2 x = some d) : d.sc = true := by unfold gMax2 at h; split at h <;> cases h; rfl
theorem sc_min2 (x : List D) (d : D) (h : gMin2 x = some d) : d.sc = true := by unfold gMin2 at h; split at h <;> cases h; rfl
theorem se_len (hK : cf.K = X.K) (hm : X.mg "len" = none) (ha : SA X cf W ca (e :: es) tA fA) (hg : Gl X "len" := by rfl) (he : starEach (e :: es) X.env = (false, eval e X.env) :: starEach es X.env := by rfl) (hpl : (backTo pos (starEach es X.env)).any (·.1) = false := by rfl) :
    SE X cf W .V true (.Call (.Name "len" p) (e :: es) [] pos) (tCB (fun xs H Q => ∃ x n, xs = [x] ∧ LenV cf.K x H n ∧ Q (.int n) H) tA) (eN gLen fA) := by
  rw [hK]
  exact (se_cb call_len (n := true) (by rw [hK]; exact snd_len) hg hm PySem.boot_len ha (by decide) (by decide) he hpl).low (scN sc_len)
theorem se_max2 (hc : X.calm = true) (hm : X.mg "max" = none) (ha : SA X cf W ca (e :: es) tA fA) (hg : Gl X "max" := by rfl) (he : starEach (e :: es) X.env = (false, eval e X.env) :: starEach es X.env := by rfl) (hpl : (backTo pos (starEach es X.env)).any (·.1) = false := by rfl) :
    SE X cf W .V true (.Call (.Name "max" p) (e :: es) [] pos) (tCB (fun xs H Q => ∃ i j, xs = [.int i, .int j] ∧ Q (.int (if j > i then j else i)) H) tA) (eN gMax2 fA) := (se_cb (call_max2 hc) (n := true) snd_max2 hg hm (by decide +kernel) ha (by decide) (by decide) he hpl).low (scN sc_max2)
theorem se_min2 (hc : X.calm = true) (hm : X.mg "min" = none) (ha : SA X cf W ca (e :: es) tA fA) (hg : Gl X "min" := by rfl) (he : starEach (e :: es) X.env = (false, eval e X.env) :: starEach es X.env := by rfl) (hpl : (backTo pos (starEach es X.env)).any (·.1) = false := by rfl) :
    SE X cf W .V true (.Call (.Name "min" p) (e :: es) [] pos) (tCB (fun xs H Q => ∃ i j, xs = [.int i, .int j] ∧ Q (.int (if j < i then j else i)) H) tA) (eN gMin2 fA) := (se_cb (call_min2 hc) (n := true) snd_min2 hg hm (by decide +kernel) ha (by decide) (by decide) he hpl).low (scN sc_min2)
theorem se_list1 (hK : cf.K = X.K) (hm : X.mg "list" = none) (ha : SA X cf W c (e :: es) tA fA) (hg : Gl X "list" := by rfl) (he : starEach (e :: es) X.env = (false, eval e X.env) :: starEach es X.env := by rfl) (hpl : (backTo pos (starEach es X.env)).any (·.1) = false := by rfl) (hcm : X.calm = true := by rfl) :
    SE X cf W c true (.Call (.Name "list" p) (e :: es) [] pos) (tCB (rList1 cf.K) tA) (eN gList1 fA) := by
  rw [hK]
  exact se_ct (call_list_of.or (call_listS hcm)) (n := true) (by rw [hK]; exact snd_list1) hg hm (by decide +kernel) ha (by decide) (by decide) he hpl
end
end MV
namespace MV
open PySem PySem.Spec PyProof.Rows L2
def D.ty : D → Option String
  | .non => some "NoneType"
  | .bl _ => some "bool"
  | .int _ => some "int"
  | .str _ => some "str"
  | .lst _ => some "list"
  | .tup _ => some "tuple"
  | .dic _ => some "dict"
  | .dit _ => none
  | .exc _ => none
def isiB (a T : String) : Bool := a == T || (a == "bool" && T == "int")
def tyNames : List String := ["NoneType", "bool", "int", "str", "list", "tuple", "dict"]
def clNames : List String := ["int", "bool", "list", "tuple", "str"]
theorem isiB_ok : ∀ a ∈ tyNames, ∀ T ∈ clNames, kitB a T = some (isiB a T) := by decide +kernel
def gIsi (T : String) (d : D) : Option D := match d.ty with
  | some a => some (.bl (isiB a T))
  | none => none
def eIsi (T : String) (f : M D) : M D := e1 (gIsi T) f
theorem rp_ty {K : PySem.W.Frag} {G H : Hp} {v : V} {d : D} {a : String} (e : Ex G H) (h : Rp K true G v d) (q : d.ty = some a) : a ∈ tyNames ∧ TyX K H v (.type a) := by
  cases h with
  | sc z =>
    cases d <;> cases z <;> cases q <;> refine ⟨by decide, .base ?_⟩ <;> constructor
  | lst s r => cases q; exact ⟨by decide, .base (.lst (e _ _ s))⟩
  | tup s r => cases q; exact ⟨by decide, .base (.tup (e _ _ s))⟩
  | dic s l r => cases q; exact ⟨by decide, .base (.dK (e _ _ s))⟩
  | dit s l r => cases q
  | exc _ => cases q
section
variable {X : Cx} {cf : Cf} {W : WX} {c ca cb : Cls} {n n1 n2 : Bool} {a b : Expr} {ta tb : TE} {fa fb : M D} {pos : Pos}
theorem se_isi {T : String} {x : Str} {p p2 : Pos} (hK : cf.K = X.K) (hT : T ∈ clNames) (hm : X.mg "isinstance" = none) (hmT : X.mg x = none) (hvT : bootBuiltins x = some (.type T)) (ha : SE X cf W ca n1 a ta fa) (hg : Gl X "isinstance" := by rfl) (hgT : Gl X x := by rfl) (hn : x ≠ "__name__" := by decide) (hd : (x == ("__debug__" : Str)) = false := by decide)
    (he : starEach [a, .Name x p2] X.env = (false, eval a X.env) :: starEach [.Name x p2] X.env := by rfl) (he2 : starEach [.Name x p2] X.env = (false, eval (.Name x p2) X.env) :: starEach [] X.env := by rfl) (hpl : (backTo pos (starEach [.Name x p2] X.env)).any (·.1) = false := by rfl) :
    SE X cf W .V true (.Call (.Name "isinstance" p) [a, .Name x p2] [] pos) (tCB (rIsi cf.K) (tCons ta (tCons (tC (.ty T)) tNil))) (eIsi T fa) := by
  rw [hK]
  refine SE.low (c := .B) (n := true) ⟨pe_callB call_isi hg hm (by decide +kernel) (pa_cons ha.p (pa_cons (pe_bltn hgT hmT hvT rfl hn hd) pa_nil he2) he) (by decide) (by decide) he hpl, ?_⟩ (e1_sc fun x d h => by
    unfold gIsi at h
    split at h <;> cases h; rfl)
  refine Sd.mk (fun R Hs env σ H F wf r d env' q Q k => ?_) (fun R Hs env σ H F wf r x env' q Q k => ?_)
  · obtain ⟨d1, env1, q1, q2⟩ := bnd_ok q
    obtain ⟨qg, rfl⟩ := lift_ok q2
    refine ha.b.s.ok r q1 fun v Hs1 H1 s1 r1 p1 _ => ?_
    unfold gIsi at qg
    split at qg
    · cases qg
      rename_i tn ht
      obtain ⟨m1, m2⟩ := rp_ty (rm_sub H1 wf) p1 ht
      refine ⟨v, .ty T, .type tn, .type T, isiB tn T, rfl, .ty T, by rw [← hK]; exact m2, kit_ty (isiB_ok tn m1 T hT), k _ Hs1 H1 s1 r1 (.bl _) fun _ _ => .bl _⟩
    · cases qg
  · rcases bnd_ex q with q | ⟨d1, env1, q1, q2⟩
    · exact ha.b.s.exn r q k
    · exact (lift_ex q2).elim
def eSlQ (i : Nat) (lo hi : M (Option Int)) : M D := fun e => match lstAt i e with
  | none => .stuck
  | some _ => bnd lo (fun l => bnd hi fun h => fun e => match lstAt i e with
    | some ds => if ds.all D.sc then .ok (.lst (cutA ds l h)) e else .stuck
    | none => .stuck) e
theorem q_list {R : Rs} {Hs : Hp} {env : PEnv} {σ : L2.St} {H : Hp} {F : Nat → List Addr} {wf : List Addr} {i : Nat} {ds : List D} (r : Rel cf R Hs env σ H F wf) (hk : cf.kd i = .Q) (h : lstAt i env = some ds) : ∃ p xs, σ[i]? = some (some (.ref p)) ∧ SqL cf.K H p xs ∧ RpL cf.K false Hs xs ds := by
  obtain ⟨v, h1, h2⟩ := r.slot i _ (lstAt_some h)
  rw [hk] at h2
  obtain ⟨a, xs, rfl, h3, h4⟩ := Rp.lst_inv h2
  exact ⟨a, xs, h1, ex_sql r.exs h3, h4⟩
theorem cut_all {ds : List D} {l h : Option Int} (hs : ds.all D.sc = true) : (cutA ds l h).all D.sc = true := by
  rw [List.all_eq_true] at hs ⊢
  intro x hx
  unfold cutA at hx
  exact hs x (List.mem_of_mem_drop (List.mem_of_mem_take hx))
theorem se_slQ {i : Nat} {o : Expr} {lo hi : Option Expr} {tl th : TO} {fl fh : M (Option Int)} {p2 : Pos} (hK : cf.K = X.K) (po : PE X o (tVar i)) (hk : cf.kd i = .Q) (hl : SO X cf W lo tl fl) (hh : SO X cf W hi th fh) : SE X cf W .V true (.Subscript o (.Slice lo hi none p2) pos) (tSl (rSlL cf.K) (tVar i) tl th) (eSlQ i fl fh) := by
  rw [hK]
  refine ⟨pe_slice sl_list po hl.p hh.p, Sd.mk (fun R Hs env σ H F wf r d env' q Q k => ?_) (fun R Hs env σ H F wf r x env' q Q k => ?_)⟩
  · unfold eSlQ at q
    cases q0 : lstAt i env with
    | none => simp only [q0] at q; cases q
    | some ds0 =>
      simp only [q0] at q
      obtain ⟨p0, xs0, a1, a2, a3⟩ := q_list r hk q0
      refine ⟨.ref p0, a1, ?_⟩
      obtain ⟨l, env1, q1, q⟩ := bnd_ok q
      obtain ⟨h, env2, q2, q⟩ := bnd_ok q
      refine hl.s.ok r q1 fun Hs1 H1 s1 r1 => hh.s.ok r1 q2 fun Hs2 H2 s2 r2 => ?_
      cases q3 : lstAt i env2 with
      | none => simp only [q3] at q; cases q
      | some ds =>
        simp only [q3] at q
        split at q
        · rename_i hsc
          cases q
          obtain ⟨p, xs, h1, h2, h3⟩ := q_list r2 hk q3
          have ep : p = p0 := by rw [h1] at a1; cases a1; rfl
          subst ep
          refine ⟨p, xs, rfl, by rw [← hK]; exact h2, fun pp hp => ?_⟩
          have rr : RpL cf.K true emp (cutV xs l h) (cutA ds l h) := (cutV_rp h3 l h).sc_any (cut_all hsc) _ _
          have hst : H pp = none := by
            cases z : H pp with
            | none => rfl
            | some u => exact absurd hp ((s1.trans s2).dom pp (by rw [z]; exact fun y => by cases y))
          have pv : Rp cf.K true (rs (grow Hs2 H2 (upd H2 pp (.lst (cutV xs l h)))) H) (.ref pp) (.lst (cutA ds l h)) := .lst (show rs _ H pp = _ by rw [rs_none hst, grow_none hp, upd_same]) (rr.sc_any (cut_all hsc) _ _)
          exact k _ (grow Hs2 H2 _) _ ((s1.trans s2).trans (Stp.grow r2.exs (Ex.new hp))) (r2.grow (Ex.new hp)) pv fun _ _ => pv
        · cases q
  · unfold eSlQ at q
    cases q0 : lstAt i env with
    | none => simp only [q0] at q; cases q
    | some ds0 =>
      simp only [q0] at q
      obtain ⟨p0, xs0, a1, a2, a3⟩ := q_list r hk q0
      refine ⟨.ref p0, a1, ?_⟩
      rcases bnd_ex q with q | ⟨l, env1, q1, q⟩
      · exact hl.s.exn r q k
      · rcases bnd_ex q with q | ⟨h, env2, q2, q⟩
        · exact hl.s.ok r q1 fun Hs1 H1 s1 r1 => hh.s.exn r1 q fun Hs2 H2 s2 r2 => k Hs2 H2 (s1.trans s2) r2
        · cases q3 : lstAt i env2 with
          | none => simp only [q3] at q; cases q
          | some ds => simp only [q3] at q; split at q <;> cases q
end
def spLaw (K : PySem.W.Frag) (F : List D → FR) : Sp := fun vs H Q _ => vs.length = 1 ∧ ∃ (a : Addr) (ns : List Int), vs = [.ref a] ∧ SqL K H a (ns.map V.int) ∧ (∃ io, F [.lst (ns.map .int)] = .ok (.bl true) io) ∧ ∀ H', Q (.bl true) H'
section
variable {P : Program} {w : World} {K : PySem.W.Frag} {mg : Str → Option Value} {base : Heap}
theorem rpl_ints {K : PySem.W.Frag} {x : Bool} {G : Hp} : ∀ ns : List Int, RpL K x G (ns.map V.int) (ns.map D.int)
  | [] => .nil
  | n :: ns => .cons (.int n) (rpl_ints ns)
theorem fn_law {x qual : Str} {st : Stmt} {f : Addr} {fd : FuncData} (N : List Str) (mN : Nat) {y : Str} {k : Nat} (cf : Cf) (g : M Fl) (hN : N.length = mN) (F : Fun K x qual st f fd) (S : FnScope N [y] (defScope st)) (hK : cf.K = K) (hk : cf.kd 0 = .Q)
    (hbody : ∀ (cdv : Value) (A : Around) (outer : List Env) (s : Shared) (H : Hp) (E : XK), Room k (A.deeper (envOfC qual (defScope st) s.heap.objs.size f cdv)) → SSs (cxOf CX0 P w K mg base N qual (defScope st) f cdv A outer s H E).nox cf W0 (defBody st) g) :
    FnOk P w K mg base CX0 (k + 1) f fd [y] (spLaw K (runF mN g)) := by
  subst hN
  refine F.ok S (fun vs H Q E h => h.1) (fun cdv A outer s H vs Q E hr h => ?_)
  obtain ⟨hl, a, ns, rfl, hS, ⟨io, h⟩, hq⟩ := h
  obtain ⟨t, p, sd⟩ := hbody cdv A outer s H E hr
  refine ⟨t, p, ?_⟩
  have r : Rel cf ⟨H, none⟩ H (envOf N.length [.lst (ns.map .int)]) (L2.start N [.ref a]) H (fun _ => []) [] :=
    { len := env_len rfl
      exs := Ex.refl _
      ex0 := fun a o h _ => h
      dom0 := fun a h => h
      slot := fun i d q => by
        have q := envOf_get q
        cases i with
        | zero =>
          have q : D.lst (ns.map .int) = d := by simpa using q
          subst q
          refine ⟨.ref a, start_get rfl, ?_⟩
          rw [hk, hK]
          exact .lst hS (rpl_ints ns)
        | succ i => simp at q
      nod := fun _ => List.nodup_nil
      dis := fun _ _ _ _ m => by cases m
      fdom := fun _ _ m => by cases m
      uns := fun _ _ m => by cases m
      new := fun _ _ m => by cases m
      volw := fun _ _ _ m => by cases m
      volb := fun _ _ _ m => by cases m
      wdom := fun _ m => by cases m
      ior := fun p h => by cases h }
  refine sd _ _ _ _ _ _ _ r _ ?_
  unfold runF at h
  cases q : g (envOf N.length [.lst (ns.map .int)]) with
  | stuck => rw [q] at h; cases h
  | ex c e => rw [q] at h; cases h
  | ok fl e =>
    rw [q] at h
    cases fl with
    | nx => cases h
    | rt d =>
      cases h
      exact fun v Hs' σ' H' F' wf' _ r' pv => by rw [pv.bl_inv]; exact hq H'
    | bk => cases h
    | ct => cases h
end
end MV
namespace MV
open PySem PySem.Spec PyProof.Rows L2
theorem aLen1 {fr : M (List D)} {m : Nat} (h : ∀ ds env env', fr env = .ok ds env' → ds.length = m) : ∀ ds env env', fr env = .ok ds env' → ds.length + 1 = m + 1 := fun ds e e2 q => congrArg (· + 1) (h ds e e2 q)
def WFUEL : Nat := 1000000
theorem own1 {cf : Cf} {x : Str} {j : Nat} (h : cf.kd j = .S) : ∀ i ∈ ([(x, j)] : List (Str × Nat)).map (·.2), cf.kd i = .S := fun i m => by
  rw [List.mem_singleton.mp m]; exact h
section
variable {X : Cx} {cf : Cf} {W : WX} {c ca cb : Cls} {n n1 n2 : Bool}
section
variable {a b d e : Expr} {ta tb td te : TT} {fa fb fd fe : M Bool} {pos : Pos}
theorem st_or2 (ha : ST X cf W a ta fa) (hb : ST X cf W b tb fb) : ST X cf W (.BoolOp .Or [a, b] pos) (tOr ta tb) (tOr2 fa fb) := SW.st (sw_or ha (sw_or1 hb))
theorem st_and2 (ha : ST X cf W a ta fa) (hb : ST X cf W b tb fb) : ST X cf W (.BoolOp .And [a, b] pos) (tAnd ta tb) (tAnd2 fa fb) := SW.st (sw_and ha (sw_and1 hb))
theorem st_or3 (ha : ST X cf W a ta fa) (hb : ST X cf W b tb fb) (hd : ST X cf W d td fd) : ST X cf W (.BoolOp .Or [a, b, d] pos) (tOr ta (tOr tb td)) (tOr2 fa (tOr2 fb fd)) := SW.st (sw_or ha (sw_or hb (sw_or1 hd)))
end
def sAug (g : Int → Int → Int) (i : Nat) (f : M D) : M Fl := fun e => match e[i]? with
  | some (some (.int x)) => bnd f (fun y => fun e => match y with
    | .int y => .ok .nx (e.set i (some (.int (g x y))))
    | _ => .stuck) e
  | _ => .stuck
def sPar (i j : Nat) (a : M (List D)) : M Fl := bnd a fun ds => fun e => match ds with
  | [d1, d2] => .ok .nx ((e.set i (some d1)).set j (some d2))
  | _ => .stuck
theorem ss_par {i j : Nat} {x y : Str} {a b : Expr} {ta : TA} {fa : M (List D)} {px py pt pos : Pos} {kt k2 : Nat} {pt2 : Pos} (hc : X.calm = true) (hki : cf.kd i = .S) (hkj : cf.kd j = .S) (hN : X.N.Nodup) (hi : X.N[i]? = some x) (hj : X.N[j]? = some y) (hij : i ≠ j)
    (hx : X.env.scope.names.lookup x = some .local) (hy : X.env.scope.names.lookup y = some .local) (ha : SA X cf W .S [a, b] ta fa)
    (hw : swappedStores [.Tuple [.Name x px, .Name y py] kt pt] (.Tuple [a, b] k2 pt2) X.env = pure (some [x, y]) := by rfl)
    (hs : swapsWithSole [.Tuple [.Name x px, .Name y py] kt pt] (.Tuple [a, b] k2 pt2) pos.line X.env = pure false := by rfl) :
    SS X cf W (.Assign [.Tuple [.Name x px, .Name y py] kt pt] (.Tuple [a, b] k2 pt2) pos) (sPar i j fa) := by
  refine ⟨_, ps_par hc hN hi hj hij hx hy ha.p hw hs, fun R Hs env σ H F wf r D hp => ?_⟩
  have h := ha.s R Hs env σ H F wf r fun vs H1 => ∃ v w, vs = [v, w] ∧ D.nx ((σ.set i (some v)).set j (some w)) H1
  unfold sPar at hp
  cases q : fa env with
  | stuck => rw [bnd_of_stuck q] at hp; exact hp.elim
  | ex x env1 =>
    rw [q] at h
    rw [bnd_of_ex q] at hp
    exact h fun Hs1 H1 s1 r1 => hp Hs1 σ H1 F wf s1.ex r1
  | ok ds env1 =>
    rw [q] at h
    rw [bnd_of_ok q] at hp
    refine h fun vs Hs1 H1 s1 r1 p1 => ?_
    split at hp
    · obtain ⟨v, w, rfl, h1, h2⟩ := p1.two
      refine ⟨v, w, rfl, ?_⟩
      exact hp Hs1 _ H1 F wf s1.ex ((r1.put (by rw [hki]; exact fun z => by cases z) fun F' => by rw [hki]; exact h1).put (by rw [hkj]; exact fun z => by cases z) fun F' => by rw [hkj]; exact h2)
    · exact hp.elim
def sUnp (f : M D) (tg : D → M Unit) : M Fl := bnd f fun d => bnd (tg d) fun _ => ret .nx
theorem ss_unp {tgt e : Expr} {te : TE} {f : M D} {is : List Nat} {g : TG} {ft : D → M Unit} {pos : Pos} (h : SE X cf W .S n e te f) (hg : SGt X cf is tgt g ft)
    (hs : swapsWithSole [tgt] e pos.line X.env = pure false := by rfl) (hw : swappedStores [tgt] e X.env = pure none := by rfl) (h1 : (assignEach [tgt] X.env).map (·.2) = [assign tgt X.env] := by rfl) :
    SS X cf W (.Assign [tgt] e pos) (sUnp f ft) := by
  refine ⟨_, ps_asg h.p hg.p hs hw h1, fun R Hs env σ H F wf r D hp => ?_⟩
  refine h.s.bind r hp fun d env1 v Hs1 H1 s1 r1 p1 _ hp => ?_
  have hh := hg.s R Hs1 env1 σ H1 F wf r1 d v p1 D.nx
  cases q : ft d env1 with
  | stuck => rw [bnd_of_stuck q] at hp; exact hp.elim
  | ex x env2 => rw [q] at hh; exact hh.elim
  | ok u env2 =>
    rw [q] at hh
    rw [bnd_of_ok q] at hp
    exact hh fun σ' r' _ _ => hp Hs1 σ' H1 F wf s1.ex r'
end
end MV
namespace MV
open PySem (Str)
abbrev dI (l : List Int) : D := .lst (l.map .int)
abbrev dT (l : List Str) : D := .lst (l.map .str)
def rb {α β : Type} (r : Res α) (k : α → PEnv → Res β) : Res β := match r with
  | .ok a e => k a e
  | .ex c e => .ex c e
  | .stuck => .stuck
section
variable {α β : Type} {m : M α} {k : α → M β} {e : PEnv} {f g fa fb fc : M D} {a b : M Fl} {t u : M Bool} {r : M (List D)}
@[simp] theorem rb_ok {a : α} {e : PEnv} {k : α → PEnv → Res β} : rb (.ok a e) k = k a e := (rfl)
@[simp] theorem rb_ex {c : Str} {e : PEnv} {k : α → PEnv → Res β} : rb (.ex c e) k = .ex c e := (rfl)
@[simp] theorem rb_stuck {k : α → PEnv → Res β} : rb .stuck k = .stuck := (rfl)
@[simp] theorem rb_ite {p : Prop} [Decidable p] {x y : Res α} {k : α → PEnv → Res β} : rb (if p then x else y) k = if p then rb x k else rb y k := by split <;> rfl
@[simp] theorem r_ret {x : α} : ret x e = .ok x e := (rfl)
@[simp] theorem r_bnd : bnd m k e = rb (m e) k := (rfl)
@[simp] theorem r_lift_some {x : α} : lift (some x) e = .ok x e := (rfl)
@[simp] theorem r_lift_none : lift (none : Option α) e = .stuck := (rfl)
@[simp] theorem r_lift_ite {p : Prop} [Decidable p] {x y : Option α} : lift (if p then x else y) e = if p then lift x e else lift y e := by split <;> rfl
@[simp] theorem r_fail : (fail : M α) e = .stuck := (rfl)
@[simp] theorem r_eC {d : D} : eC d e = .ok d e := (rfl)
def getE (o : Option (Option D)) (e : PEnv) : Res D := match o with
  | some (some d) => .ok d e
  | _ => .stuck
@[simp] theorem getE_some {d : D} : getE (some (some d)) e = .ok d e := (rfl)
@[simp] theorem r_eV {i : Nat} : eV i e = getE (e[i]?) e := (rfl)
@[simp] theorem r_e1 {h : D → Option D} : e1 h fa e = rb (fa e) fun x e => lift (h x) e := (rfl)
@[simp] theorem r_e2 {h : D → D → Option D} : e2 h fa fb e = rb (fa e) fun x e => rb (fb e) fun y e => lift (h x y) e := (rfl)
@[simp] theorem r_eN {h : List D → Option D} : eN h r e = rb (r e) fun x e => lift (h x) e := (rfl)
@[simp] theorem r_aNil : aNil e = .ok [] e := (rfl)
@[simp] theorem r_aCons : aCons fa r e = rb (fa e) fun x e => rb (r e) fun xs e => .ok (x :: xs) e := (rfl)
@[simp] theorem r_tB : tB fa e = rb (fa e) fun x e => lift (asB x) e := (rfl)
@[simp] theorem r_asB {b : Bool} : asB (.bl b) = some b := (rfl)
@[simp] theorem r_tAnd2 : tAnd2 t u e = rb (t e) fun x e => if x then u e else .ok false e := by
  show rb (t e) _ = _
  congr 1; funext x e; cases x <;> rfl
@[simp] theorem r_tOr2 : tOr2 t u e = rb (t e) fun x e => if x then .ok true e else u e := by
  show rb (t e) _ = _
  congr 1; funext x e; cases x <;> rfl
@[simp] theorem r_tNot1 : tNot1 t e = rb (t e) fun x e => .ok (!x) e := (rfl)
@[simp] theorem r_tTrue : tTrue e = .ok true e := (rfl)
@[simp] theorem r_eAndV : eAndV fa fb e = rb (fa e) fun x e => rb (lift (asB x) e) fun k e => if k then fb e else .ok (.bl false) e := by
  show rb (fa e) _ = _
  congr 1; funext x e
  show rb _ _ = _
  congr 1; funext k e; cases k <;> rfl
@[simp] theorem r_eOrV : eOrV fa fb e = rb (fa e) fun x e => rb (lift (asB x) e) fun k e => if k then .ok (.bl true) e else fb e := by
  show rb (fa e) _ = _
  congr 1; funext x e
  show rb _ _ = _
  congr 1; funext k e; cases k <;> rfl
@[simp] theorem r_eNotV : eNotV fa e = rb (fa e) fun x e => rb (lift (asB x) e) fun k e => .ok (.bl (!k)) e := (rfl)
@[simp] theorem r_eIfE : eIfE t fa fb e = rb (t e) fun k e => if k then fa e else fb e := by
  show rb (t e) _ = _
  congr 1; funext k e; cases k <;> rfl
@[simp] theorem r_eF : eF fa e = rb (fa e) fun d e => if d.flat then .ok d e else .stuck := by
  show rb (fa e) _ = _
  congr 1; funext d e; cases h : d.flat <;> simp [h]
@[simp] theorem r_eS : eS fa e = rb (fa e) fun d e => if d.sc then .ok d e else .stuck := by
  show rb (fa e) _ = _
  congr 1; funext d e; cases h : d.sc <;> simp [h]
@[simp] theorem r_sSkip : sSkip e = .ok .nx e := (rfl)
@[simp] theorem r_sBrk : sBrk e = .ok .bk e := (rfl)
@[simp] theorem r_sCont : sCont e = .ok .ct e := (rfl)
def sqK (b : M Fl) : Fl → PEnv → Res Fl
  | .nx, e => b e
  | .rt d, e => .ok (.rt d) e
  | .bk, e => .ok .bk e
  | .ct, e => .ok .ct e
@[simp] theorem sqK_nx : sqK b .nx e = b e := (rfl)
@[simp] theorem sqK_rt {d : D} : sqK b (.rt d) e = .ok (.rt d) e := (rfl)
@[simp] theorem sqK_bk : sqK b .bk e = .ok .bk e := (rfl)
@[simp] theorem sqK_ct : sqK b .ct e = .ok .ct e := (rfl)
@[simp] theorem r_sSeq : sSeq a b e = rb (a e) (sqK b) := by
  show rb (a e) _ = _
  congr 1; funext f e; cases f <;> rfl
@[simp] theorem r_sDrop : sDrop fa e = rb (fa e) fun _ e => .ok .nx e := (rfl)
@[simp] theorem r_sRet : sRet fa e = rb (fa e) fun d e => .ok (.rt d) e := (rfl)
@[simp] theorem r_sRetN : sRetN e = .ok (.rt .non) e := (rfl)
@[simp] theorem r_sIf : sIf t a b e = rb (t e) fun k e => if k then a e else b e := by
  show rb (t e) _ = _
  congr 1; funext k e; cases k <;> rfl
@[simp] theorem r_sSet {i : Nat} : sSet i fa e = rb (fa e) fun d e => .ok .nx (e.set i (some d)) := (rfl)
@[simp] theorem r_sSetM {i : Nat} : sSetM i fa e = rb (fa e) fun d e => if mok d then .ok .nx (e.set i (some d)) else .stuck := by
  show rb (fa e) _ = _
  congr 1; funext d e; cases h : mok d <;> simp [h]
@[simp] theorem r_sSetW {i : Nat} : sSetW i fa e = rb (fa e) fun d e => if wok d then .ok .nx (e.set i (some d)) else .stuck := by
  show rb (fa e) _ = _
  congr 1; funext d e; cases h : wok d <;> simp [h]
def lstO (o : Option (Option D)) : Option (List D) := match o with
  | some (some (.lst ds)) => some ds
  | _ => none
@[simp] theorem lstO_some {ds : List D} : lstO (some (some (.lst ds))) = some ds := (rfl)
@[simp] theorem r_lstAt {i : Nat} : lstAt i e = lstO (e[i]?) := (rfl)
def ro {α β : Type} (o : Option α) (k : α → Res β) : Res β := match o with
  | some a => k a
  | none => .stuck
@[simp] theorem ro_some {a : α} {k : α → Res β} : ro (some a) k = k a := (rfl)
@[simp] theorem ro_none {k : α → Res β} : ro none k = .stuck := (rfl)
@[simp] theorem r_sApp {i : Nat} : sApp i fa e = ro (lstO (e[i]?)) fun _ => rb (fa e) fun d e => ro (lstO (e[i]?)) fun ds => if ds.length < LIM then .ok .nx (e.set i (some (.lst (ds ++ [d])))) else .stuck := by
  unfold sApp
  show _ = ro (lstAt i e) _
  cases lstAt i e with
  | none => rfl
  | some ds =>
    show rb (fa e) _ = _
    simp only [ro_some]
    congr 1; funext d e
    show _ = ro (lstAt i e) _
    cases lstAt i e <;> rfl
def asInt : D → Option Int
  | .int i => some i
  | _ => none
@[simp] theorem asInt_int {i : Int} : asInt (.int i) = some i := (rfl)
@[simp] theorem r_sPut {i : Nat} : sPut i fa fb e = rb (fa e) fun d e => ro (lstO (e[i]?)) fun _ => rb (fb e) fun k e => ro (lstO (e[i]?)) fun ds => ro (asInt k) fun z => ro (L2.ixN ds.length z) fun j => .ok .nx (e.set i (some (.lst (ds.set j d)))) := by
  show rb (fa e) _ = _
  congr 1; funext d e
  show _ = ro (lstAt i e) _
  cases lstAt i e with
  | none => rfl
  | some ds =>
    show rb (fb e) _ = _
    simp only [ro_some]
    congr 1; funext k e
    show _ = ro (lstAt i e) _
    cases lstAt i e with
    | none => rfl
    | some ds =>
      simp only [ro_some]
      cases k <;> first | rfl | (simp only [asInt_int, ro_some]; cases L2.ixN ds.length _ <;> rfl)
@[simp] theorem r_sPutW {i : Nat} : sPutW i fa fb e = rb (fa e) fun d e => ro (lstO (e[i]?)) fun _ => rb (fb e) fun k e => ro (lstO (e[i]?)) fun ds => ro (asInt k) fun z => ro (L2.ixN ds.length z) fun j => if d.sc then .ok .nx (e.set i (some (.lst (ds.set j d)))) else .stuck := by
  show rb (fa e) _ = _
  congr 1; funext d e
  show _ = ro (lstAt i e) _
  cases lstAt i e with
  | none => rfl
  | some ds =>
    show rb (fb e) _ = _
    simp only [ro_some]
    congr 1; funext k e
    show _ = ro (lstAt i e) _
    cases lstAt i e with
    | none => rfl
    | some ds =>
      simp only [ro_some]
      cases k <;> first | rfl | (simp only [asInt_int, ro_some]; cases L2.ixN ds.length _ <;> rfl)
@[simp] theorem r_eIxW {i : Nat} : eIxW i fa e = ro (lstO (e[i]?)) fun _ => rb (fa e) fun k e => ro (lstO (e[i]?)) fun ds => ro (asInt k) fun z => ro (L2.atI ds z) fun d => .ok d e := by
  unfold eIxW
  show _ = ro (lstAt i e) _
  cases lstAt i e with
  | none => rfl
  | some ds =>
    show rb (fa e) _ = _
    simp only [ro_some]
    congr 1; funext k e
    show _ = ro (lstAt i e) _
    cases lstAt i e with
    | none => rfl
    | some ds =>
      simp only [ro_some]
      cases k <;> first | rfl | (simp only [asInt_int, ro_some]; cases L2.atI ds _ <;> rfl)
@[simp] theorem r_sAug {i : Nat} {h : Int → Int → Int} : sAug h i fa e = ro ((e[i]?).bind id |>.bind asInt) fun x => rb (fa e) fun y e => ro (asInt y) fun y => .ok .nx (e.set i (some (.int (h x y)))) := by
  unfold sAug
  cases q : e[i]? with
  | none => rfl
  | some o =>
    cases o with
    | none => rfl
    | some d =>
      cases d with
      | int x =>
        show rb (fa e) _ = rb (fa e) _
        congr 1; funext y e; cases y <;> rfl
      | _ => rfl
def frR {β : Type} (r : FR) (k : D → D → Res β) (kx : Str → D → Res β) : Res β := match r with
  | .ok d io => k d io
  | .ex x io => kx x io
  | .stuck => .stuck
@[simp] theorem frR_ok {d io : D} {k : D → D → Res β} {kx : Str → D → Res β} : frR (.ok d io) k kx = k d io := (rfl)
@[simp] theorem frR_ex {x : Str} {io : D} {k : D → D → Res β} {kx : Str → D → Res β} : frR (.ex x io) k kx = kx x io := (rfl)
@[simp] theorem r_eCall {F : List D → FR} : eCall F r e = rb (r e) fun ds e => frR (F ds) (fun d _ => .ok d e) fun x _ => .ex x e := (rfl)
@[simp] theorem r_eCallW {F : List D → FR} {i : Nat} : eCallW F i r e = ro (lstO (e[i]?)) fun _ => rb (r e) fun ds e => ro (lstO (e[i]?)) fun ds0 => frR (F (.lst ds0 :: ds)) (fun d io => if wok io then .ok d (e.set i (some io)) else .stuck) fun x io => if wok io then .ex x (e.set i (some io)) else .stuck := by
  unfold eCallW
  show _ = ro (lstAt i e) _
  cases lstAt i e with
  | none => rfl
  | some ds =>
    show rb (r e) _ = _
    simp only [ro_some]
    congr 1; funext ds e
    show _ = ro (lstAt i e) _
    cases lstAt i e with
    | none => rfl
    | some ds0 =>
      simp only [ro_some]
      show frW i (F _) e = _
      cases F (.lst ds0 :: ds) <;> rfl
@[simp] theorem r_oNone : oNone e = .ok none e := (rfl)
@[simp] theorem r_oSome : oSome fa e = rb (fa e) fun d e => ro (asInt d) fun i => .ok (some i) e := by
  show rb (fa e) _ = _
  congr 1; funext d e; cases d <;> rfl
@[simp] theorem r_eSl {lo hi : M (Option Int)} : eSl fa lo hi e = rb (fa e) fun x e => rb (lo e) fun l e => rb (hi e) fun h e => lift (gSl x l h) e := (rfl)
@[simp] theorem r_iL : iL fa e = rb (fa e) fun d e => lift (asL d) e := (rfl)
@[simp] theorem r_iLs : iLs fa e = rb (fa e) fun d e => lift (asLs d) e := (rfl)
@[simp] theorem r_asLs {ds : List D} : asLs (.lst ds) = if ds.all D.sc then some ds else none := (rfl)
@[simp] theorem r_iT : iT fa e = rb (fa e) fun d e => lift (asT d) e := (rfl)
@[simp] theorem r_iS : iS fa e = rb (fa e) fun d e => lift (asStr d) e := (rfl)
@[simp] theorem r_iN {h : List D → Option (List D)} : iN h r e = rb (r e) fun x e => lift (h x) e := (rfl)
@[simp] theorem r_asL {ds : List D} : asL (.lst ds) = some ds := (rfl)
@[simp] theorem r_asT {ds : List D} : asT (.tup ds) = some ds := (rfl)
@[simp] theorem r_asStr {z : Str} : asStr (.str z) = some (strD z) := (rfl)
@[simp] theorem r_sFor {fi : M (List D)} {tg : D → M Unit} : sFor fi tg b e = rb (fi e) fun ds e => sForL tg b ds e := (rfl)
@[simp] theorem r_tgN {i : Nat} {d : D} : tgN i d e = .ok () (e.set i (some d)) := (rfl)
@[simp] theorem r_tgT {is : List Nat} {ds : List D} : tgT is (.tup ds) e = ro (setAll is ds e) fun e' => .ok () e' := by
  show (match setAll is ds e with | some e' => Res.ok () e' | none => .stuck) = _
  cases setAll is ds e <;> rfl
@[simp] theorem r_setAll_nil : setAll [] [] e = some e := (rfl)
@[simp] theorem r_setAll_cons {i : Nat} {is : List Nat} {d : D} {ds : List D} : setAll (i :: is) (d :: ds) e = setAll is ds (e.set i (some d)) := (rfl)
def lcK (is : List Nat) (e : PEnv) (r : Res (List D)) : Res D := match r with
  | .ok acc e1 => .ok (.lst acc) (restE is e e1)
  | _ => .stuck
@[simp] theorem lcK_ok {is : List Nat} {acc : List D} {e e1 : PEnv} : lcK is e (.ok acc e1) = .ok (.lst acc) (restE is e e1) := (rfl)
@[simp] theorem r_eLc {is : List Nat} {fi : M (List D)} {tg : D → M Unit} : eLc is fi tg t fa e = rb (fi e) fun ds e => lcK is e (lcGo is tg t fa ds [] (wipeE is e)) := (rfl)
@[simp] theorem wipeE_nil : wipeE [] e = e := (rfl)
@[simp] theorem wipeE_cons {v : Nat} {vs : List Nat} : wipeE (v :: vs) e = (wipeE vs e).set v none := (rfl)
@[simp] theorem restE_nil {e1 : PEnv} : restE [] e e1 = e1 := (rfl)
@[simp] theorem restE_cons {v : Nat} {vs : List Nat} {e1 : PEnv} : restE (v :: vs) e e1 = (restE vs e e1).set v ((e[v]?).getD none) := (rfl)
def finF (r : Res Fl) : FR := match r with
  | .ok (.rt d) e => .ok d (ioOf e)
  | .ok .nx e => .ok .non (ioOf e)
  | .ex c e => .ex c (ioOf e)
  | _ => .stuck
theorem r_runF {n : Nat} {ds : List D} : runF n a ds = finF (a (envOf n ds)) := (rfl)
@[simp] theorem finF_rt {d : D} : finF (.ok (.rt d) e) = .ok d (ioOf e) := (rfl)
@[simp] theorem finF_nx : finF (.ok .nx e) = .ok .non (ioOf e) := (rfl)
@[simp] theorem finF_ex {c : Str} : finF (.ex c e) = .ex c (ioOf e) := (rfl)
@[simp] theorem finF_ite {p : Prop} [Decidable p] {x y : Res Fl} : finF (if p then x else y) = if p then finF x else finF y := by split <;> rfl
@[simp] theorem ioOf_some {d : D} {e : PEnv} : ioOf (some d :: e) = d := (rfl)
@[simp] theorem ioOf_nil : ioOf [] = .non := (rfl)
@[simp] theorem r_envOf {n : Nat} {ds : List D} : envOf n ds = ds.map some ++ List.replicate (n - ds.length) none := (rfl)
section
variable {i j : Int} {x y : Str} {l l2 ds ds2 : List D} {k : Bool}
@[simp] theorem gSub_i : gSub (.int i) (.int j) = some (.int (i - j)) := (rfl)
@[simp] theorem gAdd_i : gAdd (.int i) (.int j) = some (.int (i + j)) := (rfl)
@[simp] theorem gAdd_l : gAdd (.lst l) (.lst l2) = if l.length + l2.length ≤ LIM then some (.lst (l ++ l2)) else none := (rfl)
@[simp] theorem gAdd_s : gAdd (.str x) (.str y) = if x.length + y.length ≤ LIM then some (.str (x ++ y)) else none := (rfl)
@[simp] theorem gMul_i : gMul (.int i) (.int j) = if mulOk i j then some (.int (i * j)) else none := (rfl)
@[simp] theorem gMul_s : gMul (.str x) (.int i) = if x.length * i.toNat ≤ LIM ∧ -(2 ^ 63) ≤ i ∧ i < 2 ^ 31 then some (.str (repS x i.toNat)) else none := (rfl)
@[simp] theorem gFdiv_i : gFdiv (.int i) (.int j) = if L2.CDiv i j ∨ divW j = true then some (.int (i / j)) else none := (rfl)
@[simp] theorem gShr_i : gShr (.int i) (.int j) = if 0 ≤ j then some (.int (i / 2 ^ j.toNat)) else none := (rfl)
@[simp] theorem gShl_i : gShl (.int i) (.int j) = if L2.CPow i j then some (.int (i * 2 ^ j.toNat)) else none := (rfl)
@[simp] theorem gMod_i : gMod (.int i) (.int j) = if 0 < j then some (.int (i % j)) else none := (rfl)
@[simp] theorem gPow_i : gPow (.int i) (.int j) = if L2.CPow i j then some (.int (i ^ j.toNat)) else none := (rfl)
@[simp] theorem gLt_i : gLt (.int i) (.int j) = some (.bl (decide (i < j))) := (rfl)
@[simp] theorem gLe_i : gLe (.int i) (.int j) = some (.bl (decide (i ≤ j))) := (rfl)
@[simp] theorem gGt_i : gGt (.int i) (.int j) = some (.bl (decide (j < i))) := (rfl)
@[simp] theorem gGe_i : gGe (.int i) (.int j) = some (.bl (decide (j ≤ i))) := (rfl)
@[simp] theorem gNeg_i : gNeg (.int i) = some (.int (-i)) := (rfl)
@[simp] theorem gEq_i : gEq (.int i) (.int j) = some (.bl (decide (i = j))) := (rfl)
@[simp] theorem gNe_i : gNe (.int i) (.int j) = some (.bl (!decide (i = j))) := (rfl)
@[simp] theorem gEq_s : gEq (.str x) (.str y) = some (.bl (decide (x = y))) := (rfl)
@[simp] theorem gNe_s : gNe (.str x) (.str y) = some (.bl (!decide (x = y))) := (rfl)
@[simp] theorem gLst_ : gLst ds = if ds.length ≤ PySem.sizeLine then some (.lst ds) else none := (rfl)
@[simp] theorem gTupD_ : gTupD ds = if ds.length ≤ PySem.sizeLine then some (.tup ds) else none := (rfl)
@[simp] theorem gLen_l : gLen [.lst ds] = some (.int ds.length) := (rfl)
@[simp] theorem gLen_t : gLen [.tup ds] = some (.int ds.length) := (rfl)
@[simp] theorem gLen_s : gLen [.str x] = if x.length ≤ LIM then some (.int x.length) else none := (rfl)
@[simp] theorem gMax2_i : gMax2 [.int i, .int j] = some (.int (if j > i then j else i)) := (rfl)
@[simp] theorem gMin2_i : gMin2 [.int i, .int j] = some (.int (if j < i then j else i)) := (rfl)
@[simp] theorem gInt1_i : gInt1 [.int i] = some (.int i) := (rfl)
@[simp] theorem gInt1_b : gInt1 [.bl k] = some (.int (if k then 1 else 0)) := (rfl)
@[simp] theorem gList1_l : gList1 [.lst ds] = some (.lst ds) := (rfl)
@[simp] theorem gIx_l : gIx (.lst ds) (.int i) = L2.atI ds i := (rfl)
@[simp] theorem gIx_t : gIx (.tup ds) (.int i) = L2.atI ds i := (rfl)
@[simp] theorem gIx_s : gIx (.str x) (.int i) = if x.length ≤ LIM then (L2.atI x.cps.toList i).map fun c => .str ⟨#[c]⟩ else none := (rfl)
@[simp] theorem gSl_l {o o2 : Option Int} : gSl (.lst ds) o o2 = some (.lst (cutA ds o o2)) := (rfl)
@[simp] theorem gSl_s {o o2 : Option Int} : gSl (.str x) o o2 = if x.length ≤ LIM then some (.str (L2.cutS x o o2)) else none := (rfl)
@[simp] theorem gRev_l : gRev (.lst ds) = some (.lst ds.reverse) := (rfl)
@[simp] theorem gEn_l : gEn [.lst ds] = some (enumD ds) := (rfl)
@[simp] theorem gZp_l : gZp [.lst ds, .lst ds2] = some (zipD ds ds2) := (rfl)
@[simp] theorem gR1_i : gR1 [.int j] = if smallI j then some (rngD 0 j.toNat) else none := (rfl)
@[simp] theorem gR2_i : gR2 [.int i, .int j] = if smallI i && smallI j then some (rngD i (j - i).toNat) else none := (rfl)
@[simp] theorem sc_i : (D.int i).sc = true := (rfl)
@[simp] theorem sc_s : (D.str x).sc = true := (rfl)
@[simp] theorem sc_b : (D.bl k).sc = true := (rfl)
@[simp] theorem sc_n : D.non.sc = true := (rfl)
@[simp] theorem flat_i : (D.int i).flat = true := (rfl)
@[simp] theorem flat_s : (D.str x).flat = true := (rfl)
@[simp] theorem flat_b : (D.bl k).flat = true := (rfl)
@[simp] theorem flat_n : D.non.flat = true := (rfl)
@[simp] theorem flat_l : (D.lst ds).flat = ds.all D.sc := (rfl)
@[simp] theorem flat_t : (D.tup ds).flat = ds.all D.sc := (rfl)
@[simp] theorem wok_l : wok (.lst ds) = ds.all D.sc := (rfl)
@[simp] theorem mok_l : mok (.lst ds) = ds.all fun x => x.sc || match x with | .tup es => es.all D.sc | _ => false := (rfl)
theorem all_ints (l : List Int) : (l.map D.int).all D.sc = true := by simp [List.all_map]
theorem all_strs (l : List Str) : (l.map D.str).all D.sc = true := by simp [List.all_map]
@[simp] theorem mok_dI (l : List Int) : mok (dI l) = true := by simp [List.all_map]
@[simp] theorem mok_dT (l : List Str) : mok (dT l) = true := by simp [List.all_map]
@[simp] theorem flat_dI (l : List Int) : (dI l).flat = true := all_ints l
@[simp] theorem flat_dT (l : List Str) : (dT l).flat = true := all_strs l
@[simp] theorem wok_dI (l : List Int) : wok (dI l) = true := all_ints l
end
end
end MV
namespace MV
open PySem (Str PyData)
section
variable {tg : D → M Unit} {b : M Fl} {e : PEnv} {t : M Bool} {fe : M D} {is : List Nat}
theorem for_inv {ds : List D} (I : Nat → PEnv → Prop) (h0 : I 0 e) (hs : ∀ i d e, ds[i]? = some d → I i e → ∃ e1 e2 fl, tg d e = .ok () e1 ∧ b e1 = .ok fl e2 ∧ (fl = .nx ∨ fl = .ct) ∧ I (i + 1) e2) :
    ∃ e', sForL tg b ds e = .ok .nx e' ∧ I ds.length e' := by
  induction ds generalizing e I with
  | nil => exact ⟨e, rfl, h0⟩
  | cons d r ih =>
    obtain ⟨e1, e2, fl, h1, h2, h3, h4⟩ := hs 0 d e rfl h0
    obtain ⟨e', h5, h6⟩ := ih (e := e2) (fun i => I (i + 1)) h4 (fun i d e hd hi => hs (i + 1) d e (by simpa using hd) hi)
    refine ⟨e', ?_, by simpa using h6⟩
    rw [sForL, bnd_of_ok h1, bnd_of_ok h2]
    rcases h3 with rfl | rfl <;> exact h5
theorem lc_pure {α : Type} {φ : α → D} {p : α → Bool} {g : α → D} : ∀ (l : List α) (acc : List D), acc.length + l.length ≤ LIM →
    (∀ x ∈ l, ∃ e1 e2, tg (φ x) e = .ok () e1 ∧ t e1 = .ok (p x) e2 ∧ (p x = true → ∃ e3, fe e2 = .ok (g x) e3 ∧ wipeE is e3 = e) ∧ (p x = false → wipeE is e2 = e)) →
    lcGo is tg t fe (l.map φ) acc e = .ok (acc ++ (l.filter p).map g) e
  | [], acc, _, _ => by simp [lcGo]
  | x :: l, acc, hl, h => by
    obtain ⟨e1, e2, h1, h2, h3, h4⟩ := h x List.mem_cons_self
    rw [List.map_cons, lcGo, bnd_of_ok h1, bnd_of_ok h2]
    have ih := fun acc' hl' => lc_pure l acc' hl' fun y hy => h y (List.mem_cons_of_mem _ hy)
    rw [List.length_cons] at hl
    cases q : p x with
    | true =>
      obtain ⟨e3, h5, h6⟩ := h3 q
      show bnd fe _ e2 = _
      rw [bnd_of_ok h5, if_pos (by omega : acc.length < LIM)]
      show lcGo is tg t fe (l.map φ) (acc ++ [g x]) (wipeE is e3) = _
      rw [h6, ih (acc ++ [g x]) (by rw [List.length_append, List.length_singleton]; omega)]
      simp [List.filter_cons, q]
    | false =>
      show lcGo is tg t fe (l.map φ) acc (wipeE is e2) = _
      rw [h4 q, ih acc (by omega)]
      simp [List.filter_cons, q]
theorem lc_inv {ds : List D} (I : Nat → List D → PEnv → Prop) : ∀ (acc : List D) (e : PEnv), I 0 acc e → acc.length + ds.length ≤ LIM →
    (∀ i d acc e, ds[i]? = some d → I i acc e → ∃ e1 e2 k, tg d e = .ok () e1 ∧ t e1 = .ok k e2 ∧ (k = true → ∃ y e3, fe e2 = .ok y e3 ∧ I (i + 1) (acc ++ [y]) (wipeE is e3)) ∧ (k = false → I (i + 1) acc (wipeE is e2))) →
    ∃ a' e', lcGo is tg t fe ds acc e = .ok a' e' ∧ I ds.length a' e' := by
  induction ds generalizing I with
  | nil => intro acc e h0 _ _; exact ⟨acc, e, rfl, h0⟩
  | cons d r ih =>
    intro acc e h0 hl hs
    obtain ⟨e1, e2, k, h1, h2, h3, h4⟩ := hs 0 d acc e rfl h0
    rw [List.length_cons] at hl
    rw [lcGo, bnd_of_ok h1, bnd_of_ok h2]
    cases k with
    | true =>
      obtain ⟨y, e3, h5, h6⟩ := h3 rfl
      obtain ⟨a', e', h7, h8⟩ := ih (fun i => I (i + 1)) (acc ++ [y]) (wipeE is e3) h6 (by rw [List.length_append, List.length_singleton]; omega) (fun i d acc e hd hi => hs (i + 1) d acc e (by simpa using hd) hi)
      refine ⟨a', e', ?_, by simpa using h8⟩
      show bnd fe _ e2 = _
      rw [bnd_of_ok h5, if_pos (by omega : acc.length < LIM)]
      exact h7
    | false =>
      obtain ⟨a', e', h7, h8⟩ := ih (fun i => I (i + 1)) acc (wipeE is e2) (h4 rfl) (by omega) (fun i d acc e hd hi => hs (i + 1) d acc e (by simpa using hd) hi)
      exact ⟨a', e', h7, by simpa using h8⟩
end
section
variable {α β : Type}
theorem cutA_to (l : List α) (k : Nat) : cutA l none (some (k : Int)) = l.take k := by
  unfold cutA
  rw [HT.sIx_none, HT.sIx_nat, List.drop_zero, Nat.sub_zero]
  apply List.ext_getElem?
  intro i
  rw [List.getElem?_take, List.getElem?_take]
  by_cases h : i < k
  · by_cases h2 : i < l.length
    · rw [if_pos (by omega), if_pos h]
    · rw [List.getElem?_eq_none (by omega)]; simp
  · rw [if_neg (by omega), if_neg h]
theorem cutA_from (l : List α) (k : Nat) : cutA l (some (k : Int)) none = l.drop k := by
  unfold cutA
  rw [HT.sIx_none, HT.sIx_nat, List.take_of_length_le (by rw [List.length_drop]; omega)]
  apply List.ext_getElem?
  intro i
  rw [List.getElem?_drop, List.getElem?_drop]
  by_cases h2 : k ≤ l.length
  · rw [Nat.min_eq_left h2]
  · rw [List.getElem?_eq_none (by omega), List.getElem?_eq_none (by omega)]
theorem cutA_mid (l : List α) (i j : Nat) : cutA l (some (i : Int)) (some (j : Int)) = (l.drop i).take (j - i) := by
  unfold cutA
  rw [HT.sIx_nat, HT.sIx_nat]
  apply List.ext_getElem?
  intro m
  rw [List.getElem?_take, List.getElem?_take, List.getElem?_drop, List.getElem?_drop]
  by_cases h : i ≤ l.length
  · rw [Nat.min_eq_left h]
    by_cases h2 : i + m < l.length
    · by_cases h3 : m < j - i
      · rw [if_pos (by omega), if_pos h3]
      · rw [if_neg (by omega), if_neg h3]
    · rw [List.getElem?_eq_none (by omega)]; simp
  · rw [List.getElem?_eq_none (by omega), List.getElem?_eq_none (by omega)]; simp
theorem cutA_map (f : α → β) (l : List α) (lo hi : Option Int) : cutA (l.map f) lo hi = (cutA l lo hi).map f := by
  unfold cutA
  rw [List.length_map, List.map_take, List.map_drop]
theorem atI_eq (l : List α) (j : Nat) : L2.atI l (j : Int) = l[j]? := by
  cases h : l[j]? with
  | some v => exact L2.atI_nat h
  | none =>
    rw [List.getElem?_eq_none_iff] at h
    unfold L2.atI L2.ixN
    rw [if_pos (by omega), if_neg (by omega)]
    rfl
end
theorem toPs_map {α : Type} {f : α → D} {g : α → PyData} (h : ∀ x, (f x).toP = some (g x)) : ∀ l : List α, toPs (l.map f) = some (l.map g)
  | [] => by rw [List.map_nil, toPs]; rfl
  | x :: l => by rw [List.map_cons, toPs, h, toPs_map h l]; rfl
theorem toP_int (i : Int) : (D.int i).toP = some (.int i) := by rw [D.toP]
theorem toP_str (x : Str) : (D.str x).toP = some (.str x) := by rw [D.toP]
theorem toP_lst {ds : List D} {ps : List PyData} (h : toPs ds = some ps) : (D.lst ds).toP = some (.list ps) := by rw [D.toP, h]; rfl
theorem toP_tup {ds : List D} {ps : List PyData} (h : toPs ds = some ps) : (D.tup ds).toP = some (.tuple ps) := by rw [D.toP, h]; rfl
theorem eqvAll_ints : ∀ a b : List Int, PyData.eqvAll (a.map .int) (b.map .int) = decide (a = b)
  | [], [] => by simp [PyData.eqvAll]
  | [], _ :: _ => by simp [PyData.eqvAll]
  | _ :: _, [] => by simp [PyData.eqvAll]
  | x :: a, y :: b => by
    rw [List.map_cons, List.map_cons, PyData.eqvAll, eqvAll_ints a b, PyData.eqv, Bool.eq_iff_iff]
    simp
theorem eqvAll_strs : ∀ a b : List Str, PyData.eqvAll (a.map .str) (b.map .str) = decide (a = b)
  | [], [] => by simp [PyData.eqvAll]
  | [], _ :: _ => by simp [PyData.eqvAll]
  | _ :: _, [] => by simp [PyData.eqvAll]
  | x :: a, y :: b => by
    rw [List.map_cons, List.map_cons, PyData.eqvAll, eqvAll_strs a b, PyData.eqv, Bool.eq_iff_iff]
    simp
theorem lay_ints : ∀ a : List Int, PyData.canLayAll0 (a.map .int) = true
  | [] => by simp [PyData.canLayAll0]
  | x :: a => by rw [List.map_cons, PyData.canLayAll0, PyData.canLay0, lay_ints a]; rfl
theorem depth_ints : ∀ a : List Int, PyData.depthAll (a.map .int) = 0
  | [] => by simp [PyData.depthAll]
  | x :: a => by rw [List.map_cons, PyData.depthAll, PyData.depth, depth_ints a]; rfl
def okS (x : Str) : Prop := PyData.strOk x = true
theorem lay_strs : ∀ a : List Str, (∀ x ∈ a, okS x) → PyData.canLayAll0 (a.map .str) = true
  | [], _ => by simp [PyData.canLayAll0]
  | x :: a, h => by rw [List.map_cons, PyData.canLayAll0, PyData.canLay0, lay_strs a fun y hy => h y (List.mem_cons_of_mem _ hy), h x List.mem_cons_self]; rfl
theorem depth_strs : ∀ a : List Str, PyData.depthAll (a.map .str) = 0
  | [] => by simp [PyData.depthAll]
  | x :: a => by rw [List.map_cons, PyData.depthAll, PyData.depth, depth_strs a]; rfl
theorem shaped_ints (a : List Int) : PySem.SeqAt.shaped (.list (a.map .int)) = true := by
  unfold PySem.SeqAt.shaped
  rw [PyData.canLay0, lay_ints, PyData.depth, depth_ints]; rfl
theorem shaped_strs {a : List Str} (h : ∀ x ∈ a, okS x) : PySem.SeqAt.shaped (.list (a.map .str)) = true := by
  unfold PySem.SeqAt.shaped
  rw [PyData.canLay0, lay_strs a h, PyData.depth, depth_strs]; rfl
theorem deq_dI (a b : List Int) : deq (dI a) (dI b) = some (decide (a = b)) := by
  have h1 : (dI a).toP = some (.list (a.map .int)) := toP_lst (toPs_map toP_int a)
  have h2 : (dI b).toP = some (.list (b.map .int)) := toP_lst (toPs_map toP_int b)
  show (match (dI a).toP, (dI b).toP with | some p, some q => if PySem.SeqAt.shaped p && PySem.SeqAt.shaped q then some (PyData.eqv p q) else none | _, _ => none) = _
  rw [h1, h2]
  simp only [shaped_ints, Bool.and_self, if_true]
  rw [PyData.eqv, eqvAll_ints]
theorem deq_dT {a b : List Str} (ha : ∀ x ∈ a, okS x) (hb : ∀ x ∈ b, okS x) : deq (dT a) (dT b) = some (decide (a = b)) := by
  have h1 : (dT a).toP = some (.list (a.map .str)) := toP_lst (toPs_map toP_str a)
  have h2 : (dT b).toP = some (.list (b.map .str)) := toP_lst (toPs_map toP_str b)
  show (match (dT a).toP, (dT b).toP with | some p, some q => if PySem.SeqAt.shaped p && PySem.SeqAt.shaped q then some (PyData.eqv p q) else none | _, _ => none) = _
  rw [h1, h2]
  simp only [shaped_strs ha, shaped_strs hb, Bool.and_self, if_true]
  rw [PyData.eqv, eqvAll_strs]
theorem gEq_dI (a b : List Int) : gEq (dI a) (dI b) = some (.bl (decide (a = b))) := by unfold gEq; rw [deq_dI]; rfl
theorem gNe_dI (a b : List Int) : gNe (dI a) (dI b) = some (.bl (!decide (a = b))) := by unfold gNe; rw [deq_dI]; rfl
theorem gEq_dT {a b : List Str} (ha : ∀ x ∈ a, okS x) (hb : ∀ x ∈ b, okS x) : gEq (dT a) (dT b) = some (.bl (decide (a = b))) := by unfold gEq; rw [deq_dT ha hb]; rfl
theorem gNe_dT {a b : List Str} (ha : ∀ x ∈ a, okS x) (hb : ∀ x ∈ b, okS x) : gNe (dT a) (dT b) = some (.bl (!decide (a = b))) := by unfold gNe; rw [deq_dT ha hb]; rfl
def Sg (s : Str) : Prop := ∃ c : Nat, s = ⟨#[c]⟩ ∧ 97 ≤ c ∧ c ≤ 122
theorem Sg.ok {s : Str} (h : Sg s) : okS s := by
  obtain ⟨c, rfl, _, h2⟩ := h
  unfold okS PyData.strOk
  simp
  omega
def Tx (t : List Str) : Prop := ∀ x ∈ t, Sg x
theorem Tx.ok {t : List Str} (h : Tx t) : ∀ x ∈ t, okS x := fun x hx => (h x hx).ok
theorem okNil : ∀ x ∈ ([] : List Str), okS x := fun _ h => by cases h
theorem Tx.take {t : List Str} (h : Tx t) (k : Nat) : Tx (t.take k) := fun x hx => h x (List.mem_of_mem_take hx)
theorem Tx.drop {t : List Str} (h : Tx t) (k : Nat) : Tx (t.drop k) := fun x hx => h x (List.mem_of_mem_drop hx)
theorem Tx.append {t u : List Str} (h : Tx t) (h2 : Tx u) : Tx (t ++ u) := fun x hx => (List.mem_append.mp hx).elim (h x) (h2 x)
theorem Tx.set {t : List Str} (h : Tx t) {x : Str} (hx : Sg x) (k : Nat) : Tx (t.set k x) := fun y hy => by
  rcases List.mem_or_eq_of_mem_set hy with hy | rfl
  · exact h y hy
  · exact hx
end MV
namespace MV
open PySem (Str PyData)
abbrev dN (l : List Nat) : D := .lst (l.map fun k : Nat => D.int (k : Int))
theorem dN_dI (l : List Nat) : dN l = dI (l.map fun k : Nat => (k : Int)) := by
  show D.lst _ = D.lst _
  rw [List.map_map]; rfl
theorem cast_inj {a b : List Nat} : (a.map (fun k : Nat => (k : Int)) = b.map fun k : Nat => (k : Int)) ↔ a = b :=
  ⟨fun h => (List.map_inj_right (fun x y h => by omega)).mp h, fun h => by rw [h]⟩
theorem gEq_dN (a b : List Nat) : gEq (dN a) (dN b) = some (.bl (decide (a = b))) := by
  rw [dN_dI, dN_dI, gEq_dI]; simp only [cast_inj]
theorem gNe_dN (a b : List Nat) : gNe (dN a) (dN b) = some (.bl (!decide (a = b))) := by
  rw [dN_dI, dN_dI, gNe_dI]; simp only [cast_inj]
theorem rng0 (n : Nat) : rngD 0 n = (List.range n).map fun k : Nat => D.int (k : Int) := by
  unfold rngD; simp
theorem rngN (m n : Nat) : rngD (m : Int) n = (List.range' m n).map fun k : Nat => D.int (k : Int) := by
  unfold rngD
  rw [List.range'_eq_map_range, List.map_map]
  apply List.map_congr_left
  intro k _
  simp
theorem rngN_get {m n i : Nat} {d : D} (h : (rngD (m : Int) n)[i]? = some d) : i < n ∧ d = .int ((m + i : Nat) : Int) := by
  rw [rngN] at h
  rw [List.getElem?_map] at h
  by_cases hi : i < n
  · rw [List.getElem?_range' hi] at h
    simp at h; exact ⟨hi, by rw [← h]; congr 1⟩
  · rw [List.getElem?_eq_none (by simp; omega)] at h; cases h
theorem rng0_get {n i : Nat} {d : D} (h : (rngD 0 n)[i]? = some d) : i < n ∧ d = .int (i : Int) := by
  have := rngN_get (m := 0) (n := n) (i := i) (d := d) (by simpa using h)
  simpa using this
theorem small_of {i : Int} (h : -1000000 ≤ i) (h2 : i ≤ 1000000) : smallI i = true := decide_eq_true (by omega)
theorem lc_nat {is : List Nat} {tg : D → M Unit} {t : M Bool} {fe : M D} {e : PEnv} (p : Nat → Bool) (g : Nat → D) (l : List Nat) (hl : l.length ≤ LIM)
    (h : ∀ k ∈ l, ∃ e1 e2, tg (.int (k : Int)) e = .ok () e1 ∧ t e1 = .ok (p k) e2 ∧ (p k = true → ∃ e3, fe e2 = .ok (g k) e3 ∧ wipeE is e3 = e) ∧ (p k = false → wipeE is e2 = e)) :
    lcGo is tg t fe (l.map fun k : Nat => D.int (k : Int)) [] e = .ok ((l.filter p).map g) e := by
  have := lc_pure (φ := fun k : Nat => D.int (k : Int)) (p := p) (g := g) l [] (by simpa using hl) h
  simpa using this
section
variable {α : Type} {a b c d x : α} {l : List α}
@[simp] theorem atI0 : L2.atI (a :: l) 0 = some a := by rw [show (0 : Int) = ((0 : Nat) : Int) from rfl, atI_eq]; rfl
@[simp] theorem atI1 : L2.atI (a :: b :: l) 1 = some b := by rw [show (1 : Int) = ((1 : Nat) : Int) from rfl, atI_eq]; rfl
@[simp] theorem atI2 : L2.atI (a :: b :: c :: l) 2 = some c := by rw [show (2 : Int) = ((2 : Nat) : Int) from rfl, atI_eq]; rfl
@[simp] theorem atI3 : L2.atI (a :: b :: c :: d :: l) 3 = some d := by rw [show (3 : Int) = ((3 : Nat) : Int) from rfl, atI_eq]; rfl
@[simp] theorem atI4 : L2.atI (a :: b :: c :: d :: x :: l) 4 = some x := by rw [show (4 : Int) = ((4 : Nat) : Int) from rfl, atI_eq]; rfl
end
theorem cutA_from1 {α : Type} (l : List α) (k : Nat) : cutA l (some ((k : Int) + 1)) none = l.drop (k + 1) := by
  rw [show ((k : Int) + 1) = ((k + 1 : Nat) : Int) by omega, cutA_from]
theorem cutA_mid2 {α : Type} (l : List α) (i j : Nat) : cutA l (some (i : Int)) (some ((i : Int) + (j : Int))) = (l.drop i).take j := by
  rw [show ((i : Int) + (j : Int)) = ((i + j : Nat) : Int) by omega, cutA_mid, show i + j - i = j by omega]
theorem gEq_nT {a : List Str} (ha : ∀ x ∈ a, okS x) : gEq (dT a) (.lst []) = some (.bl (decide (a = []))) := gEq_dT ha okNil
theorem gNe_nN (a : List Nat) : gNe (dN a) (.lst []) = some (.bl (!decide (a = []))) := gNe_dN a []
@[simp] theorem gEq_nn : gEq (.lst []) (.lst []) = some (.bl true) := gEq_dN [] []
@[simp] theorem gNe_nn : gNe (.lst []) (.lst []) = some (.bl false) := gNe_dN [] []
@[simp] theorem filter_no {α : Type} (l : List α) : l.filter (fun _ => false) = [] := by induction l <;> simp_all
@[simp] theorem r_eIsi {T : String} {f : M D} {e : PEnv} : eIsi T f e = rb (f e) fun x e => lift (gIsi T x) e := (rfl)
section
variable {ds : List D} {i : Int} {k : Bool} {x : Str}
@[simp] theorem isi_list {ds : List D} : gIsi "list" (.lst ds) = some (.bl true) := (rfl)
@[simp] theorem isi_int {i : Int} : gIsi "int" (.int i) = some (.bl true) := (rfl)
@[simp] theorem isi_boolI {i : Int} : gIsi "bool" (.int i) = some (.bl false) := (rfl)
@[simp] theorem isi_boolB {b : Bool} : gIsi "bool" (.bl b) = some (.bl true) := (rfl)
@[simp] theorem isi_tup {ds : List D} : gIsi "tuple" (.tup ds) = some (.bl true) := (rfl)
@[simp] theorem isi_str {x : Str} : gIsi "str" (.str x) = some (.bl true) := (rfl)
end
theorem hsz0 : (0 : Nat) ≤ PySem.sizeLine := Nat.zero_le _
@[simp] theorem r_eSlQ {i : Nat} {lo hi : M (Option Int)} {e : PEnv} : eSlQ i lo hi e = ro (lstO (e[i]?)) fun _ => rb (lo e) fun l e => rb (hi e) fun h e => ro (lstO (e[i]?)) fun ds => if ds.all D.sc then .ok (.lst (cutA ds l h)) e else .stuck := by
  unfold eSlQ
  show _ = ro (lstAt i e) _
  cases lstAt i e with
  | none => rfl
  | some ds =>
    show rb (lo e) _ = _
    simp only [ro_some]
    congr 1; funext l e
    show rb (hi e) _ = _
    congr 1; funext h e
    show _ = ro (lstAt i e) _
    cases lstAt i e with
    | none => rfl
    | some ds => rfl
theorem cutA_len {α : Type} (l : List α) (lo hi : Option Int) : (cutA l lo hi).length ≤ l.length := by
  unfold cutA; rw [List.length_take, List.length_drop]; omega
end MV
namespace MV
open PySem PySem.Spec PyProof.Rows L2
def tru : D → Option Bool
  | .non => some false
  | .bl b => some b
  | .int i => some (i != 0)
  | .lst ds => some (!ds.isEmpty)
  | .tup ds => some (!ds.isEmpty)
  | _ => none
theorem rpl_empty {K : PySem.W.Frag} {x : Bool} {G : Hp} {xs : List V} {ds : List D} (r : RpL K x G xs ds) : (!ds.isEmpty) = !xs.isEmpty := by cases r <;> rfl
theorem tru_rp {K : PySem.W.Frag} {G H : Hp} {v : V} {d : D} {k : Bool} (e : Ex G H) (h : Rp K true G v d) (q : tru d = some k) : TruV K v H k := by
  cases h with
  | sc z => cases d <;> cases z <;> cases q <;> rfl
  | lst s r => cases q; exact .inl ⟨_, ex_sql e s.any, rpl_empty r⟩
  | tup s r => cases q; exact .inr (.inl ⟨_, ex_sqt e s.any, rpl_empty r⟩)
  | dic => cases q
  | dit => cases q
  | exc => cases q
section
variable {X : Cx} {cf : Cf} {W : WX} {c : Cls} {n n1 n2 : Bool}
theorem SE.nn {e : Expr} {te : TE} {f : M D} (h : SE X cf W c n e te f) : SE X cf W c false e te f := ⟨h.p, fun R Hs env σ H F wf r Q => by
  have h := h.s R Hs env σ H F wf r Q
  cases q : f env with
  | ok d env' => rw [q] at h; exact fun k => h fun v Hs' H' s r' p nr => k v Hs' H' s r' p fun z => by cases z
  | ex x env' => rw [q] at h; exact h
  | stuck => trivial⟩
def tOrT (K : PySem.W.Frag) (ta tb : TE) : TE := fun σ H Q => ta σ H fun x H1 => ∃ k, TruV K x H1 k ∧ if k = true then Q x H1 else tb σ H1 Q
theorem pe_orT {a b : Expr} {rest : List Expr} {ta tb : TE} {pos : Pos} (ha : PE X a ta) (hb : PE X (.BoolOp .Or (b :: rest) pos) tb) : PE X (.BoolOp .Or (a :: b :: rest) pos) (tOrT X.K ta tb) := by
  refine ⟨fun pins s σ H Q I h => ?_⟩
  refine BoolOp_or (thn (ha.run pins s σ H _ I h) fun v s1 ⟨x, H1, I1, r1, q1⟩ => ?_)
  obtain ⟨k, e1, q1⟩ := q1
  refine thn (tru_ok pins s1 σ H1 x v (fun c H2 => c = k ∧ H2 = H1) I1 r1 ⟨k, e1, rfl, rfl⟩) fun c s2 ⟨H2, I2, q2⟩ => ?_
  obtain ⟨rfl, rfl⟩ := q2
  cases c with
  | false => exact hb.run pins s2 σ H2 Q I2 q1
  | true => exact ⟨x, H2, I2, r1, q1⟩
def eOrT (a b : M D) : M D := bnd a fun x => bnd (lift (tru x)) fun k => if k then ret x else b
theorem sd_orT {ta tb : TE} {fa fb : M D} (ha : Sd cf W c n ta fa) (hb : Sd cf W c n tb fb) : Sd cf W c n (tOrT cf.K ta tb) (eOrT fa fb) := by
  refine Sd.mk (fun R Hs env σ H F wf r d env' q Q k => ?_) (fun R Hs env σ H F wf r x env' q Q k => ?_)
  · obtain ⟨d1, env1, q1, q⟩ := bnd_ok q
    obtain ⟨b, env2, q2, q⟩ := bnd_ok q
    obtain ⟨qb, rfl⟩ := lift_ok q2
    refine ha.ok r q1 fun v Hs1 H1 s1 r1 p1 nr1 => ⟨b, tru_rp (rg_sub r1.exs) p1 qb, ?_⟩
    cases b with
    | false => exact hb.ok r1 q fun v2 Hs2 H2 s2 r2 p2 nr => k v2 Hs2 H2 (s1.trans s2) r2 (p2.mono (rg_start s1.dom)) fun z hf => (nr z hf).mono (rg_start (c := .V) (H0 := R.H0) (H := H2) (wf := wf) s1.dom)
    | true => cases q; exact k _ Hs1 H1 s1 r1 p1 nr1
  · rcases bnd_ex q with q | ⟨d1, env1, q1, q⟩
    · exact ha.exn r q k
    · rcases bnd_ex q with q | ⟨b, env2, q2, q⟩
      · exact (lift_ex q).elim
      · obtain ⟨qb, rfl⟩ := lift_ok q2
        refine ha.ok r q1 fun v Hs1 H1 s1 r1 p1 _ => ⟨b, tru_rp (rg_sub r1.exs) p1 qb, ?_⟩
        cases b with
        | false => exact hb.exn r1 q fun Hs2 H2 s2 r2 => k Hs2 H2 (s1.trans s2) r2
        | true => cases q
theorem se_orT {a b : Expr} {rest : List Expr} {ta tb : TE} {fa fb : M D} {pos : Pos} (hK : cf.K = X.K) (h : SE X cf W c n a ta fa) (h2 : SE X cf W c n (.BoolOp .Or (b :: rest) pos) tb fb) : SE X cf W c n (.BoolOp .Or (a :: b :: rest) pos) (tOrT cf.K ta tb) (eOrT fa fb) := ⟨hK ▸ pe_orT h.p h2.p, sd_orT h.s h2.s⟩
def tTr (f : M D) : M Bool := bnd f fun d => lift (tru d)
def tTru (K : PySem.W.Frag) (ta : TE) : TT := fun σ H Q => ta σ H fun x H' => ∃ k, TruV K x H' k ∧ Q k H'
theorem sdt_tru {te : TE} {f : M D} (h : Sd cf W c n te f) : SdT cf W (tTru cf.K te) (tTr f) := by
  refine SdT.mk (fun R Hs env σ H F wf r d env' q Q k => ?_) (fun R Hs env σ H F wf r x env' q Q k => ?_)
  · obtain ⟨d1, env1, q1, q⟩ := bnd_ok q
    obtain ⟨qg, rfl⟩ := lift_ok q
    exact h.ok r q1 fun v Hs1 H1 s1 r1 p1 _ => ⟨d, tru_rp (rg_sub r1.exs) p1 qg, k Hs1 H1 s1 r1⟩
  · rcases bnd_ex q with q | ⟨d1, env1, q1, q⟩
    · exact h.exn r q k
    · exact (lift_ex q).elim
theorem st_tru {e : Expr} {te : TE} {f : M D} (hK : cf.K = X.K) (h : SE X cf W c n e te f) (he : ∀ whole, isTrue e X.env whole = (do let v ← whole; standAt e.pos; holding [v] (truthy v)) := by intro _; rfl) : ST X cf W e (tTru cf.K te) (tTr f) := ⟨hK ▸ pt_truth h.p he, sdt_tru h.s⟩
end
section
variable {e : PEnv} {fa fb : M D} {b : Bool} {i : Int} {ds : List D}
@[simp] theorem tru_b : tru (.bl b) = some b := (rfl)
@[simp] theorem tru_i : tru (.int i) = some (i != 0) := (rfl)
@[simp] theorem tru_l : tru (.lst ds) = some (!ds.isEmpty) := (rfl)
@[simp] theorem tru_t : tru (.tup ds) = some (!ds.isEmpty) := (rfl)
@[simp] theorem tru_n : tru .non = some false := (rfl)
@[simp] theorem r_tTr : tTr fa e = rb (fa e) fun x e => lift (tru x) e := (rfl)
@[simp] theorem r_eOrT : eOrT fa fb e = rb (fa e) fun x e => rb (lift (tru x) e) fun k e => if k then .ok x e else fb e := by
  show rb (fa e) _ = _
  congr 1; funext x e
  show rb _ _ = _
  congr 1; funext k e; cases k <;> rfl
end
theorem for_fold {σ α : Type} {tg : D → M Unit} {b : M Fl} {φ : α → D} (R : σ → PEnv → Prop) (f : σ → α → σ) : ∀ (l : List α) (s : σ) (e : PEnv), R s e →
    (∀ s x e, x ∈ l → R s e → ∃ e1 e2 fl, tg (φ x) e = .ok () e1 ∧ b e1 = .ok fl e2 ∧ (fl = .nx ∨ fl = .ct) ∧ R (f s x) e2) →
    ∃ e', sForL tg b (l.map φ) e = .ok .nx e' ∧ R (l.foldl f s) e'
  | [], s, e, h0, _ => ⟨e, rfl, h0⟩
  | x :: l, s, e, h0, hs => by
    obtain ⟨e1, e2, fl, h1, h2, h3, h4⟩ := hs s x e List.mem_cons_self h0
    obtain ⟨e', h5, h6⟩ := for_fold R f l (f s x) e2 h4 fun s y e hy => hs s y e (List.mem_cons_of_mem _ hy)
    refine ⟨e', ?_, h6⟩
    rw [List.map_cons, sForL, bnd_of_ok h1, bnd_of_ok h2]
    rcases h3 with rfl | rfl <;> exact h5
end MV
namespace MV
open PySem PySem.Spec PyProof.Rows L2
def gLR1 : D → Option D
  | .int j => if smallI j && decide (j.toNat ≤ LIM) then some (.lst (rngD 0 j.toNat)) else none
  | _ => none
def gLR2 : D → D → Option D
  | .int i, .int j => if smallI i && smallI j && decide ((j - i).toNat ≤ LIM) then some (.lst (rngD i (j - i).toNat)) else none
  | _, _ => none
theorem rpl_rng {K : PySem.W.Frag} {G : Hp} (i j : Int) : RpL K true G (rgV i j) (rngD i (j - i).toNat) := by
  unfold rgV rngD
  generalize List.range (j - i).toNat = l
  induction l with
  | nil => exact .nil
  | cons a r ih => exact .cons (.int _) ih
theorem rgOk_of {i j : Int} (h : smallI i = true) (h2 : smallI j = true) (h3 : (j - i).toNat ≤ LIM) : RgOk i j := by
  have h := of_decide_eq_true h
  have h2 := of_decide_eq_true h2
  exact ⟨h.1, h.2, h2.1, h2.2, Nat.le_trans h3 (by decide)⟩
def rLR1 : V → Hp → VK → Prop := fun x H Q => ∃ n, x = .int n ∧ RgOk 0 n ∧ ∀ q, H q = none → Q (.ref q) (upd H q (.lst (rgV 0 n)))
theorem snd_LR1 {K : PySem.W.Frag} : Snd1 K true rLR1 gLR1 := fun G H x d1 d e h q Q k => by
  unfold gLR1 at q
  split at q
  · rename_i j
    split at q
    · rename_i hc
      cases q
      have hc := Bool.and_eq_true_iff.mp hc
      have hc2 := of_decide_eq_true hc.2
      have e1 : (j - 0).toNat = j.toNat := by rw [Int.sub_zero]
      exact ⟨j, h.int_inv, rgOk_of (by decide) hc.1 (by rw [e1]; exact hc2), fun p hp => k _ _ (Ex.new hp) (new_rp e hp (e1 ▸ rpl_rng 0 j)) (new_nn (G := G) hp (e1 ▸ rpl_rng 0 j))⟩
    · cases q
  · cases q
section
variable {X : Cx} {cf : Cf} {W : WX} {c : Cls} {n n1 n2 : Bool}
theorem se_lrg1 {a : Expr} {ta : TE} {fa : M D} {p p2 pos pos2 : Pos} (hc : X.calm = true) (hm : X.mg "list" = none) (hm2 : X.mg "range" = none) (ha : SE X cf W c n1 a ta fa) (hg : Gl X "list" := by rfl) (hg2 : Gl X "range" := by rfl)
    (na : starEach [.Call (.Name "range" p2) [a] [] pos2] X.env = (false, eval (.Call (.Name "range" p2) [a] [] pos2) X.env) :: starEach [] X.env := by rfl) (nb : starEach [a] X.env = (false, eval a X.env) :: starEach [] X.env := by rfl) :
    SE X cf W c true (.Call (.Name "list" p) [.Call (.Name "range" p2) [a] [] pos2] [] pos) (tUn rLR1 ta) (e1 gLR1 fa) := ⟨show PE X _ (tLstRg (tRg1 ta)) from pe_listRg hc hg hm (prg_1 hg2 hm2 ha.p nb) na, sd_op1 snd_LR1 ha.s⟩
end
section
variable {i j : Int}
@[simp] theorem gLR1_i : gLR1 (.int j) = if smallI j && decide (j.toNat ≤ LIM) then some (.lst (rngD 0 j.toNat)) else none := (rfl)
@[simp] theorem gLR2_i : gLR2 (.int i) (.int j) = if smallI i && smallI j && decide ((j - i).toNat ≤ LIM) then some (.lst (rngD i (j - i).toNat)) else none := (rfl)
end
end MV
namespace MV
open PySem PySem.Spec PyProof.Rows L2
def SndM (K : PySem.W.Frag) (n : Bool) (T : String) (r : V → List V → Hp → VK → Prop) (g : D → List D → Option D) : Prop := ∀ (G H : Hp) (x : V) (xs : List V) (d1 : D) (ds : List D) (d : D), Ex G H → Rp K true G x d1 → RpL K true G xs ds → g d1 ds = some d → ∀ Q : VK, (∀ v H', Ex H H' → Rp K true (grow G H H') v d → Nn K n H H' v d → Q v H') → r x xs H Q
def tyD : D → String
  | .lst _ => "list"
  | .str _ => "str"
  | _ => ""
def eM (T : String) (g : D → List D → Option D) (fo : M D) (fa : M (List D)) : M D := bnd fo fun x => if tyD x == T then bnd fa fun xs => lift (g x xs) else fail
theorem tyD_ok {K : PySem.W.Frag} {G H : Hp} {x : V} {d : D} {T : String} (e : Ex G H) (h : Rp K true G x d) (q : (tyD d == T) = true) (hT : T = "list" ∨ T = "str") : tyV K T x H := by
  have q := beq_iff_eq.mp q
  subst q
  cases d with
  | lst ds =>
    obtain ⟨a, xs, rfl, s1, r1⟩ := h.lst_inv
    exact .inl ⟨rfl, xs, ex_sql e s1.any⟩
  | str z => rw [h.str_inv]; exact (rfl : "str" = "str")
  | _ =>
    rcases hT with h | h
    · exact absurd h (show ¬ (("" : String) = "list") by decide)
    · exact absurd h (show ¬ (("" : String) = "str") by decide)
section
variable {X : Cx} {cf : Cf} {W : WX} {c : Cls} {n n1 n2 : Bool}
theorem sd_bm {T : String} {r : V → List V → Hp → VK → Prop} {g : D → List D → Option D} {to : TE} {ta : TA} {fo : M D} {fa : M (List D)} (hT : T = "list" ∨ T = "str") (hs : SndM cf.K n T r g) (ho : Sd cf W c n1 to fo) (ha : SdA cf W c ta fa) : Sd cf W c n (tBM cf.K T r to ta) (eM T g fo fa) := by
  refine Sd.mk (fun R Hs env σ H F wf r d env' q Q k => ?_) (fun R Hs env σ H F wf r x env' q Q k => ?_)
  · obtain ⟨d1, env1, q1, q⟩ := bnd_ok q
    cases z : tyD d1 == T with
    | false => rw [z] at q; cases q
    | true =>
      rw [z] at q
      obtain ⟨d2, env2, q2, q⟩ := bnd_ok q
      obtain ⟨qg, rfl⟩ := lift_ok q
      exact ho.ok r q1 fun v Hs1 H1 s1 r1 p1 _ => ⟨tyD_ok (rg_sub r1.exs) p1 z hT, ha.ok r1 q2 fun v2 Hs2 H2 s2 r2 p2 =>
        hs (rg c R.H0 Hs2 H H2 wf) H2 v v2 d1 d2 d (rg_sub r2.exs) (p1.mono (rg_step s2)) (p2.mono (rg_start s1.dom)) qg Q fun v3 H3 x p nn => fin_op (s1.trans s2) r2 x p nn k⟩
  · rcases bnd_ex q with q | ⟨d1, env1, q1, q⟩
    · exact ho.exn r q k
    · cases z : tyD d1 == T with
      | false => rw [z] at q; cases q
      | true =>
        rw [z] at q
        rcases bnd_ex q with q | ⟨d2, env2, q2, q⟩
        · exact ho.ok r q1 fun v Hs1 H1 s1 r1 p1 _ => ⟨tyD_ok (rg_sub r1.exs) p1 z hT, ha.exn r1 q fun Hs2 H2 s2 r2 => k Hs2 H2 (s1.trans s2) r2⟩
        · exact (lift_ex q).elim
end
def eqD (z y : D) : Bool := match z.toV, y.toV with
  | some a, some b => eqV a b
  | _, _ => false
def gIndex : D → List D → Option D
  | .lst ds, [y] => if y.sc && ds.all D.sc then (ds.findIdx? fun z => eqD z y).map fun j => .int (j : Nat) else none
  | _, _ => none
theorem rpl_get {K : PySem.W.Frag} {x : Bool} {G : Hp} : ∀ {xs : List V} {ds : List D}, RpL K x G xs ds → ∀ (j : Nat), (∀ d, ds[j]? = some d → ∃ v, xs[j]? = some v ∧ Rp K x G v d) ∧ (∀ v, xs[j]? = some v → ∃ d, ds[j]? = some d ∧ Rp K x G v d)
  | _, _, .nil, j => ⟨fun d h => by simp at h, fun v h => by simp at h⟩
  | v :: xs, d :: ds, .cons h r, 0 => ⟨fun d' q => by cases Option.some.inj q; exact ⟨v, rfl, h⟩, fun v' q => by cases Option.some.inj q; exact ⟨d, rfl, h⟩⟩
  | v :: xs, d :: ds, .cons h r, j + 1 => by
    obtain ⟨a, b⟩ := rpl_get r j
    exact ⟨fun d' q => a d' q, fun v' q => b v' q⟩
theorem snd_index {K : PySem.W.Frag} : SndM K true "list" (rIndex K) gIndex := fun G H x xs d1 ds d e h1 h2 q Q k => by
  unfold gIndex at q
  split at q
  · rename_i ds y
    split at q
    · rename_i hs
      rw [Bool.and_eq_true] at hs
      cases z : ds.findIdx? (fun z => eqD z y) with
      | none => rw [z] at q; cases q
      | some j =>
        rw [z] at q
        cases q
        obtain ⟨v, rfl, hv⟩ := h2.one
        obtain ⟨a, ys, rfl, s1, r1⟩ := h1.lst_inv
        obtain ⟨hj, hp, hm⟩ := List.findIdx?_eq_some_iff_getElem.mp z
        have sc : ∀ (m : Nat) (d : D), ds[m]? = some d → d.sc = true := fun m d h => List.all_eq_true.mp hs.2 d (List.mem_of_getElem? h)
        obtain ⟨w, w1, w2⟩ := (rpl_get r1 j).1 ds[j] (List.getElem?_eq_getElem hj)
        have hy := hv.toV hs.1
        refine ⟨a, ys, v, j, w, rfl, rfl, ex_sql e s1.any, flatV_of hy, flatV_all r1 hs.2, w1, ?_, fun m z' hm' hz' => ?_, k_sc k rfl⟩
        · have hw := w2.toV (sc j _ (List.getElem?_eq_getElem hj))
          unfold eqD at hp
          rw [hw, hy] at hp
          exact hp
        · obtain ⟨dm, dm1, dm2⟩ := (rpl_get r1 m).2 z' hz'
          have hne := hm m hm'
          have hw := dm2.toV (sc m _ dm1)
          have e2 : ds[m]'(by omega) = dm := by
            have := List.getElem?_eq_getElem (l := ds) (i := m) (by omega)
            rw [this] at dm1; exact Option.some.inj dm1
          rw [e2] at hne
          unfold eqD at hne
          rw [hw, hy] at hne
          simpa using hne
    · cases q
  · cases q
theorem sc_index : ∀ x xs d, gIndex x xs = some d → d.sc = true := fun x xs d q => by
  unfold gIndex at q
  split at q
  · split at q
    · cases z : List.findIdx? (fun z => eqD z _) _ with
      | none => rw [z] at q; cases q
      | some j => rw [z] at q; cases q; rfl
    · cases q
  · cases q
theorem scM {T : String} {g : D → List D → Option D} {fo : M D} {fa : M (List D)} (h : ∀ x xs d, g x xs = some d → d.sc = true) : ScF (eM T g fo fa) := fun env d env' q => by
  obtain ⟨d1, env1, q1, q⟩ := bnd_ok q
  cases z : tyD d1 == T with
  | false => rw [z] at q; cases q
  | true =>
    rw [z] at q
    obtain ⟨d2, env2, q2, q⟩ := bnd_ok q
    obtain ⟨qg, _⟩ := lift_ok q
    exact h _ _ _ qg
section
variable {X : Cx} {cf : Cf} {W : WX} {c : Cls} {n n1 n2 : Bool}
theorem se_index {o e : Expr} {es : List Expr} {to : TE} {tA : TA} {fo : M D} {fA : M (List D)} {apos cpos : Pos} (hK : cf.K = X.K) (ho : SE X cf W c n1 o to fo) (ha : SA X cf W c (e :: es) tA fA)
    (hbase : attributeBase o "index" X.env (eval o X.env) = eval o X.env := by rfl)
    (hfew : ((backTo cpos (starEach (e :: es) X.env)).all (fun x => !x.1) && (backToKw cpos (keywordEach [] X.env)).all (fun x => x.1.isSome)
      && decide ((e :: es).length + ([] : List Keyword).length + (if ([] : List Keyword).isEmpty then 0 else 1) < 30)) = true := by rfl)
    (hline : (apos.endLine == cpos.line) = true := by rfl) (hs : starEach (e :: es) X.env = (false, eval e X.env) :: starEach es X.env := by rfl) (hplain : (backTo cpos (starEach es X.env)).any (·.1) = false := by rfl) :
    SE X cf W .V true (.Call (.Attribute o "index" apos) (e :: es) [] cpos) (tBM cf.K "list" (rIndex cf.K) to tA) (eM "list" gIndex fo fA) :=
  SE.low (c := c) (n := true) ⟨hK ▸ pe_bm PySem.F.plainAttrs_list PySem.F.slot_list_index PySem.F.type_list_index mt_index ho.p ha.p hbase hfew hline hs hplain, sd_bm (.inl rfl) snd_index ho.s ha.s⟩ (scM sc_index)
end
section
variable {e : PEnv} {fo : M D} {fa : M (List D)} {T : String} {g : D → List D → Option D} {ds : List D} {y : D}
@[simp] theorem r_eM : eM T g fo fa e = rb (fo e) fun x e => if tyD x == T then rb (fa e) fun xs e => lift (g x xs) e else .stuck := by
  show rb (fo e) _ = _
  congr 1; funext x e; cases tyD x == T <;> rfl
@[simp] theorem tyD_l : tyD (.lst ds) = "list" := (rfl)
@[simp] theorem gIndex_l : gIndex (.lst ds) [y] = if y.sc && ds.all D.sc then (ds.findIdx? fun z => eqD z y).map fun j => .int (j : Nat) else none := (rfl)
end
end MV
namespace MV
open PySem PySem.Spec PyProof.Rows L2
section
variable {K : PySem.W.Frag} {T H H' : Hp}
theorem Own.off {p : Addr} {o : HO} {F : List Addr} {v : V} {d : D} (h : Own K T H F v d) (hp : p ∉ F) : Own K T (upd H p o) F v d := h.keep (Ex.refl _) fun a m u e => by
  rw [upd_ne (fun z => hp (by rw [← z]; exact m))]; exact e
end
section
variable {X : Cx} {cf : Cf} {W : WX} {c : Cls} {n n1 n2 : Bool}
def linL : List D → Bool
  | [] => true
  | d :: ds => if d.sc then linL ds else (match d with | .lst es => es.all D.sc | _ => false) && ds.all D.sc
def lin : D → Bool
  | .lst ds => ds.all D.sc
  | .tup ds => linL ds
  | d => d.sc
def sSetP (i : Nat) (f : M D) : M Fl := bnd f fun d => bnd (lift (if lin d then some d else none)) fun d => fun e => .ok .nx (e.set i (some d))
end
section
variable {e : PEnv} {fi f : M D} {i : Nat} {ds es : List D}
@[simp] theorem r_sSetP : sSetP i f e = rb (f e) fun d e => if lin d then .ok .nx (e.set i (some d)) else .stuck := by
  show rb (f e) _ = _
  congr 1; funext d e; cases h : lin d <;> simp [h]
end
end MV
namespace MV
open PySem PySem.Spec PyProof.Rows L2
def eCallQ (F : List D → FR) (i : Nat) (a : M (List D)) : M D := fun e => match e[i]? with
  | some (some d0) => bnd a (fun ds => frD (F (d0 :: ds))) e
  | _ => .stuck
def eIxQ (i : Nat) (f : M D) : M D := fun e => match lstAt i e with
  | none => .stuck
  | some ds => bnd f (fun k => match k with
    | .int z => lift ((atI ds z).bind fun d => if d.sc then some d else none)
    | _ => fail) e
def eLenQ (i : Nat) : M D := fun e => match lstAt i e with
  | some ds => .ok (.int ds.length) e
  | none => .stuck
section
variable {X : Cx} {cf : Cf} {W : WX} {c : Cls} {n n1 n2 : Bool}
theorem sd_callQ {F : List D → FR} {m i : Nat} {ta : TA} {fa : M (List D)} (hk : cf.kd i = .Q) (h : SdA cf W .B ta fa) (hm : ∀ ds env env', fa env = .ok ds env' → ds.length + 1 = m) : Sd cf W .V true (tCallS (spQ cf.K cf.cv m F) (WE W) (tCons (tVar i) ta)) (eCallQ F i fa) := by
  have hnw : cf.kd i ≠ .W := by rw [hk]; exact fun z => by cases z
  refine Sd.mk (fun R Hs env σ H F0 wf r d env' q Q k => ?_) (fun R Hs env σ H F0 wf r x env' q Q k => ?_)
  · unfold eCallQ at q
    split at q
    · rename_i d0 q0
      obtain ⟨v, hv, _⟩ := r.slot i d0 q0
      refine ⟨v, hv, ?_⟩
      obtain ⟨ds, env1, q1, q2⟩ := bnd_ok q
      refine h.ok r q1 fun vs Hs1 H1 s1 r1 p1 => ?_
      have e1 : env1[i]? = some (some d0) := by rw [s1.kp i hnw]; exact q0
      obtain ⟨v1, hv1, hs1⟩ := r1.slot i d0 e1
      have ev : v1 = v := by rw [hv1] at hv; cases hv; rfl
      subst ev
      rw [hk] at hs1
      refine ⟨by rw [List.length_cons, p1.length]; exact hm _ _ _ q1, v1, vs, d0, ds, rfl, Rp.mono r1.exs hs1, p1.mono (rm_sub _ _), ?_⟩
      cases qf : F (d0 :: ds) with
      | ok d' io =>
        rw [qf] at q2
        cases q2
        intro v H' x pv
        have pv' : Rp cf.K true (rs (grow Hs1 H1 H') H) v d := pv.mono (nw_rs s1.dom)
        exact k v (grow Hs1 H1 H') H' (s1.trans (Stp.grow r1.exs x)) (r1.grow x) pv' fun _ _ => pv'
      | ex x io => rw [qf] at q2; cases q2
      | stuck => rw [qf] at q2; cases q2
    · cases q
  · unfold eCallQ at q
    split at q
    · rename_i d0 q0
      obtain ⟨v, hv, _⟩ := r.slot i d0 q0
      refine ⟨v, hv, ?_⟩
      rcases bnd_ex q with q | ⟨ds, env1, q1, q2⟩
      · exact h.exn r q k
      · refine h.ok r q1 fun vs Hs1 H1 s1 r1 p1 => ?_
        have e1 : env1[i]? = some (some d0) := by rw [s1.kp i hnw]; exact q0
        obtain ⟨v1, hv1, hs1⟩ := r1.slot i d0 e1
        have ev : v1 = v := by rw [hv1] at hv; cases hv; rfl
        subst ev
        rw [hk] at hs1
        refine ⟨by rw [List.length_cons, p1.length]; exact hm _ _ _ q1, v1, vs, d0, ds, rfl, Rp.mono r1.exs hs1, p1.mono (rm_sub _ _), ?_⟩
        cases qf : F (d0 :: ds) with
        | ok d' io => rw [qf] at q2; cases q2
        | ex x' io =>
          rw [qf] at q2
          cases q2
          intro H' x
          exact k (grow Hs1 H1 H') H' (s1.trans (Stp.grow r1.exs x)) (r1.grow x)
        | stuck => rw [qf] at q2; cases q2
    · cases q
theorem se_callQ {F : List D → FR} {m k i : Nat} {f : Addr} {fd : FuncData} {ps : List Str} {x : Str} {e : Expr} {es : List Expr} {ta : TA} {fa : M (List D)} {p pos : Pos} (hK : cf.K = X.K) (tk : L2N.Takes X W) (G : FnOk X.prog X.w X.K X.mg X.base (L2N.CX X.prog X.w) k f fd ps (spQ X.K cf.cv m F)) (hr : Room k X.A) (hg : Gl X x) (hm : X.mg x = some (.ref f)) (hkp : PySem.W.keepIn X.K (.ref f) = true) (hb : Binds X.K fd ps []) (hk : cf.kd i = .Q) (pe : PE X e (tVar i)) (ha : SA X cf W .B es ta fa) (hl : ∀ ds env env', fa env = .ok ds env' → ds.length + 1 = m)
    (hdb : (x == ("__debug__" : Str)) = false := by decide) (he : starEach (e :: es) X.env = (false, eval e X.env) :: starEach es X.env := by rfl) (hpl : (backTo pos (starEach es X.env)).any (·.1) = false := by rfl) :
    SE X cf W .V true (.Call (.Name x p) (e :: es) [] pos) (tCallS (spQ cf.K cf.cv m F) (WE W) (tCons (tVar i) ta)) (eCallQ F i fa) := by
  refine ⟨?_, sd_callQ hk ha.s hl⟩
  rw [hK]
  exact pe_callS G hr hg hm hkp hb (fun σ => L2N.passAt tk σ) (pa_cons pe ha.p he) hdb he hpl
theorem se_ixQ {i : Nat} {o ix : Expr} {ti : TE} {f : M D} {pos : Pos} (hK : cf.K = X.K) (po : PE X o (tVar i)) (hk : cf.kd i = .Q) (h : SE X cf W c n ix ti f) (hs : PlainIx ix) : SE X cf W .V true (.Subscript o ix pos) (tOp (rIx cf.K) (tVar i) ti) (eIxQ i f) := by
  have hnw : cf.kd i ≠ .W := by rw [hk]; exact fun z => by cases z
  rw [hK]
  refine ⟨pe_ix ix_seq po h.p hs, Sd.mk (fun R Hs env σ H F wf r d env' q Q k => ?_) (fun R Hs env σ H F wf r x env' q Q k => ?_)⟩
  · unfold eIxQ at q
    cases q0 : lstAt i env with
    | none => simp only [q0] at q; cases q
    | some ds =>
      simp only [q0] at q
      obtain ⟨p0, xs0, a1, a2, a3⟩ := q_list r hk q0
      refine ⟨.ref p0, a1, ?_⟩
      obtain ⟨kd, env1, q1, q2⟩ := bnd_ok q
      refine h.s.ok r q1 fun v Hs1 H1 s1 r1 p1 _ => ?_
      have q3 : lstAt i env1 = some ds := by
        unfold lstAt at q0 ⊢; rw [s1.kp i hnw]; exact q0
      obtain ⟨p, xs, h1, h2, h3⟩ := q_list r1 hk q3
      have ep : p = p0 := by rw [h1] at a1; cases a1; rfl
      subst ep
      cases kd with
      | int z =>
        obtain ⟨qg, rfl⟩ := lift_ok q2
        cases qa : atI ds z with
        | none => rw [qa] at qg; cases qg
        | some d' =>
          rw [qa] at qg
          have qg : (if d'.sc then some d' else none) = some d := qg
          split at qg
          · rename_i hsc
            cases qg
            obtain ⟨w, hw, hr⟩ := atI_rp h3 qa
            exact .inl ⟨p, xs, z, w, rfl, p1.int_inv, by rw [← hK]; exact h2, hw, k w Hs1 H1 s1 r1 (hr.sc_any hsc _ _) fun _ _ => hr.sc_any hsc _ _⟩
          · cases qg
      | _ => cases q2
  · unfold eIxQ at q
    cases q0 : lstAt i env with
    | none => simp only [q0] at q; cases q
    | some ds0 =>
      simp only [q0] at q
      obtain ⟨p0, xs0, a1, a2, a3⟩ := q_list r hk q0
      refine ⟨.ref p0, a1, ?_⟩
      rcases bnd_ex q with q | ⟨kd, env1, q1, q2⟩
      · exact h.s.exn r q k
      · cases kd with
        | int z => exact (lift_ex q2).elim
        | _ => cases q2
theorem se_lenQ {i : Nat} {o : Expr} {p pos : Pos} (hK : cf.K = X.K) (hm : X.mg "len" = none) (po : PE X o (tVar i)) (hk : cf.kd i = .Q) (hg : Gl X "len" := by rfl) (he : starEach [o] X.env = (false, eval o X.env) :: starEach [] X.env := by rfl) (hpl : (backTo pos (starEach [] X.env)).any (·.1) = false := by rfl) :
    SE X cf W .V true (.Call (.Name "len" p) [o] [] pos) (tCB (fun xs H Q => ∃ x n, xs = [x] ∧ LenV cf.K x H n ∧ Q (.int n) H) (tCons (tVar i) tNil)) (eLenQ i) := by
  rw [hK]
  refine ⟨pe_callB call_len hg hm PySem.boot_len (pa_cons po pa_nil he) (by decide) (by decide) he hpl, Sd.mk (fun R Hs env σ H F wf r d env' q Q k => ?_) (fun R Hs env σ H F wf r x env' q Q k => ?_)⟩
  · unfold eLenQ at q
    split at q
    · rename_i ds q0
      cases q
      obtain ⟨p0, xs0, a1, a2, a3⟩ := q_list r hk q0
      refine ⟨.ref p0, a1, .ref p0, xs0.length, rfl, .inl ⟨xs0, by rw [← hK]; exact a2, rfl⟩, ?_⟩
      rw [a3.length]
      exact k _ Hs H Stp.refl r (.int _) fun _ _ => .int _
    · cases q
  · unfold eLenQ at q
    split at q <;> cases q
end
section
variable {P : Program} {w : World} {K : PySem.W.Frag} {mg : Str → Option Value} {base : Heap}
theorem fn_Q {x qual : Str} {st : Stmt} {f : Addr} {fd : FuncData} (N ps : List Str) (mN mP : Nat) {k : Nat} (cf : Cf) (g : M Fl) (hN : N.length = mN) (hP : ps.length = mP) (F : Fun K x qual st f fd) (S : FnScope N ps (defScope st)) (hK : cf.K = K) (h0 : cf.kd 0 = .Q) (hk : ∀ i, 0 < i → i < ps.length → cf.kd i = .S)
    (hbody : ∀ (cdv : Value) (A : Around) (outer : List Env) (s : Shared) (H : Hp) (E : XK), Room k (A.deeper (envOfC qual (defScope st) s.heap.objs.size f cdv)) → L2N.Takes (cxOf (L2N.CX P w) P w K mg base N qual (defScope st) f cdv A outer s H E) (fun cls d _ H => E cls d H) →
      PassesOwn (model P w) (A.deeper (envOfC qual (defScope st) s.heap.objs.size f cdv)) (envOfC qual (defScope st) s.heap.objs.size f cdv) (cxOf (L2N.CX P w) P w K mg base N qual (defScope st) f cdv A outer s H E).xe →
      SSs (cxOf (L2N.CX P w) P w K mg base N qual (defScope st) f cdv A outer s H E) cf (fun cls d _ H => E cls d H) (defBody st) g) :
    FnOk P w K mg base (L2N.CX P w) (k + 1) f fd ps (spQ K cf.cv mP (runF mN g)) := by
  subst hN hP
  refine okN F S (fun vs H Q E h => h.1) (fun cdv A outer s H vs Q E hr h => ?_)
  obtain ⟨hl, v0, vs', d0, ds, rfl, hd0, hd, h⟩ := h
  obtain ⟨t, p, sd⟩ := hbody cdv A outer s H E hr (L2N.takes_of rfl rfl rfl rfl) (passes_of rfl)
  refine ⟨t, p, ?_⟩
  have r : Rel cf ⟨H, none⟩ H (envOf N.length (d0 :: ds)) (L2.start N (v0 :: vs')) H (fun _ => []) [] :=
    { len := env_len (by rw [List.length_cons, List.length_cons, hd.length])
      exs := Ex.refl _
      ex0 := fun a o h _ => h
      dom0 := fun a h => h
      slot := fun i d q => by
        have q := envOf_get q
        cases i with
        | zero =>
          have q : d0 = d := by simpa using q
          subst q
          refine ⟨v0, start_get rfl, ?_⟩
          rw [h0, hK]
          exact hd0
        | succ i =>
          have q : ds[i]? = some d := by simpa using q
          obtain ⟨v, h1, h2⟩ := hd.get q
          refine ⟨v, start_get (by simpa using h1), ?_⟩
          rw [hk (i + 1) (by omega) (by rw [← hl, List.length_cons, hd.length]; have := (List.getElem?_eq_some_iff.mp q).1; omega), hK]
          exact h2
      nod := fun _ => List.nodup_nil
      dis := fun _ _ _ _ m => by cases m
      fdom := fun _ _ m => by cases m
      uns := fun _ _ m => by cases m
      new := fun _ _ m => by cases m
      volw := fun _ _ _ m => by cases m
      volb := fun _ _ _ m => by cases m
      wdom := fun _ m => by cases m
      ior := fun p h => by cases h }
  refine sd _ _ _ _ _ _ _ r _ ?_
  unfold runF at h
  have exH : ∀ {Hs' H' : Hp} {env' : PEnv} {σ' : L2.St} {F' : Nat → List Addr} {wf' : List Addr}, Rel cf ⟨H, none⟩ Hs' env' σ' H' F' wf' → Ex H H' := fun r' a o ha => r'.exs a o (r'.ex0 a o ha (fun z => by cases z))
  cases q : g (envOf N.length (d0 :: ds)) with
  | stuck => rw [q] at h; exact h.elim
  | ex c e =>
    rw [q] at h
    exact fun Hs' σ' H' F' wf' _ r' => h H' (exH r')
  | ok fl e =>
    rw [q] at h
    cases fl with
    | nx => exact fun Hs' σ' H' F' wf' _ r' => h .non H' (exH r') .non
    | rt d => exact fun v Hs' σ' H' F' wf' _ r' pv => h v H' (exH r') (by
        rw [← hK]
        exact pv.mono fun a o ha => by
          have ha : rs (rm H' wf') H a = some o := ha
          cases z : H a with
          | none => rw [rs_none z] at ha; rw [nw_none z]; exact rm_sub _ _ a o ha
          | some u => rw [rs_some z] at ha; cases ha)
    | bk => exact h.elim
    | ct => exact h.elim
end
section
variable {e : PEnv} {f : M D} {i : Nat} {r : M (List D)}
def someO (o : Option (Option D)) : Option D := match o with
  | some (some d) => some d
  | _ => none
@[simp] theorem someO_some {d : D} : someO (some (some d)) = some d := (rfl)
@[simp] theorem r_eCallQ {F : List D → FR} : eCallQ F i r e = ro (someO (e[i]?)) fun d0 => rb (r e) fun ds e => frR (F (d0 :: ds)) (fun d _ => .ok d e) fun x _ => .ex x e := by
  unfold eCallQ someO
  cases e[i]? with
  | none => rfl
  | some o => cases o <;> rfl
@[simp] theorem r_eIxQ : eIxQ i f e = ro (lstO (e[i]?)) fun ds => rb (f e) fun k e => ro (asInt k) fun z => ro (L2.atI ds z) fun d => if d.sc then .ok d e else .stuck := by
  unfold eIxQ
  show _ = ro (lstAt i e) _
  cases lstAt i e with
  | none => rfl
  | some ds =>
    show rb (f e) _ = _
    simp only [ro_some]
    congr 1; funext k e
    cases k <;> first | rfl | (simp only [asInt_int, ro_some]; cases h : L2.atI ds _ with | none => rfl | some d => cases h2 : d.sc <;> simp [h2])
@[simp] theorem r_eLenQ : eLenQ i e = ro (lstO (e[i]?)) fun ds => .ok (.int ds.length) e := by
  unfold eLenQ
  show _ = ro (lstAt i e) _
  cases lstAt i e <;> rfl
end
end MV
namespace MV
open PySem PySem.Spec PyProof.Rows L2
section
variable {X : Cx} {pp : List (Addr × Obj)} {σ : L2.St} {H : Hp} {s : Shared}
theorem exH_ok {P : Program} {w : World} {G : Hp} {h : Heap} {a : Addr} {cls : Value} {oe : Obj} {fs : Array Value} (e : h.get? a = some oe) (h1 : oe.cls = cls) (h2 : oe.dict = none) (h3 : oe.data = .fields fs) : ObjOk P w G h a (ExH cls a) :=
  ⟨⟨oe, fs, e, h1, h2, h3⟩, ⟨oe, e⟩, fun _ _ ⟨o, v, q, z⟩ k => ⟨o, v, k o q, z⟩⟩
theorem track_inv {a : Addr} {cls : Value} {oe : Obj} {fs : Array Value} (I : Inv X pp σ H s) (e : s.heap.get? a = some oe) (na : H a = none) (nl : a ≠ X.env.locals) (h1 : oe.cls = cls) (h2 : oe.dict = none) (h3 : oe.data = .fields fs)
    (n0 : X.s_0.heap.get? a = none) (np : ∀ p ∈ X.pn ++ pp, p.1 ≠ a) : Inv X pp σ (upd H a (ExH cls a)) s := by
  have nn : ∀ b u, H b = some u → b ≠ a := fun b u q z => by rw [z, na] at q; cases q
  have n0' : ∀ b u, X.s_0.heap.get? b = some u → b ≠ a := fun b u q z => by rw [z, n0] at q; cases q
  have nc : ∀ x c, X.env.cells.lookup x = some c → c ≠ a := fun x c q z => by
    obtain ⟨v, o, ho, hd⟩ := I.cell x c q
    rw [z, e] at ho
    cases ho
    rw [h3] at hd
    cases hd
  have B := I.base
  refine { ok := I.ok, os := I.os, bare := I.bare, loc := I.loc, cell := I.cell, len := I.len, base := ?_, free := ?_, freeC := ?_, pin := ?_, hok := ?_ }
  · refine ⟨B.keep, B.slot, ?_, B.there, ?_, ?_, ?_⟩
    · intro b u q n hx
      rw [upd_ne (n0' b u q)]
      exact B.free b u q n hx
    · intro b xs q
      have z := B.tups b xs q
      rw [upd_ne (nn _ _ z)]; exact z
    · intro b o u q
      have z := B.frzs b o u q
      rw [upd_ne (nn _ _ z)]; exact z
    · intro b ps q
      obtain ⟨m, z⟩ := B.tbls b ps q
      exact ⟨m, by rw [upd_ne (nn _ _ z)]; exact z⟩
  · rw [upd_ne (Ne.symm nl)]; exact I.free
  · intro x c q
    rw [upd_ne (nc x c q)]; exact I.freeC x c q
  · intro p hp
    obtain ⟨z1, z2, z3⟩ := I.pin p hp
    exact ⟨z1, by rw [upd_ne (np p hp)]; exact z2, z3⟩
  · exact I.hok.laidN (fun _ _ q => q) na (exH_ok e h1 h2 h3)
end
def wKeep (K : PySem.W.Frag) (c : Value) (i : Nat) (ts : Addr → Value → TS) (Wo : WX) (D : Ends) : WX := fun cls d σ H =>
  ∃ b, PySem.W.exmOne K cls c = some b ∧ (b = true → d = none ∧ ∀ a, H a = none → ts a cls { nx := fun σ' H' => D.nx (σ'.set i none) (upd H' a (ExH cls a)), rt := fun _ _ => False, bk := fun _ _ => False, ct := fun _ _ => False } (σ.set i (some (.ref a))) H) ∧
    (b = false → Wo cls d σ H)
section
variable {X : Cx} {x n : Str} {c : Value} {i : Nat} {body suite : List Stmt} {b₀ : Stmt} {np pos pos' : Pos} {tb : WX → TS} {ts : Addr → Value → TS} {Wo : WX}
theorem ps_try_kept (hs : X.stack = X.env :: X.outer) (hf : X.env.frame = some X.env.locals) (hx : X.ex = []) (hN : X.N.Nodup) (hi : X.N[i]? = some n) (hln : X.env.kindOf n = some .local) (hc : Names X x c) (tk : L2N.Takes X Wo)
    (hb : ∀ (W : WX) (pn : List (Addr × Obj)) (xe : Value → Shared → Prop), L2N.Takes (X.tr pn xe) W → PassesOwn (model X.prog X.w) X.A X.env xe → PSs (X.tr pn xe) body (tb W))
    (hsu : ∀ (a : Addr) (oe : Obj) (cls : Value) (pn : List (Addr × Obj)), L2N.Zn cls none oe → (∃ vs, oe.data = .fields vs) → PSs (X.suite a ((a, oe) :: pn)) (b₀ :: suite) (ts a cls)) :
    PS X (.Try body [.ExceptHandler (some (.Name x np)) (some n) (b₀ :: suite) pos'] [] [] pos) (fun D σ H => tb (wKeep X.K c i ts Wo D) D σ H) := by
  constructor
  intro pp s σ H D I h
  have hA : X.A.frames = some (X.env :: X.outer) := by rw [I.ok.frames, hs]
  let hd : List ExceptHandler := [.ExceptHandler (some (.Name x np)) (some n) (b₀ :: suite) pos']
  let xe' : Value → Shared → Prop := fun e t1 => wpAny (model X.prog X.w) X.A (noteFrame e X.env) (fun _ t2 => wpAny (model X.prog X.w) X.A (setFlight e none) (fun _ t3 => wpAny (model X.prog X.w) X.A (handleBy e X.env hd) (SP X pp D) X.xe t3) X.xe t2) X.xe t1
  have catches : L2N.Takes (X.tr (X.pn ++ pp) xe') (wKeep X.K c i ts Wo D) := by
    intro u t air
    obtain ⟨a, B, sI, p2, σ', H', cls, d, eu, J0, nb, up, sky, na, os, ag, k, k1, kyes, kno⟩ := air
    subst eu
    have J : Inv X pp σ' H' sI := J0.ofTry I.ok
    have sky2 : Sky B (X.env :: X.outer) a (L2N.Zn cls d) X.env.locals t.heap := by rw [← hs]; exact sky
    show wpAny _ _ (noteFrame (.ref a) X.env) _ _ _
    refine L2N.Sky.land L2N.Zn.steady hA hf sky2 fun g fl ug => ?_
    have Jg : Inv X pp σ' H' { t with heap := g } := J.landed nb fl.1 (up.trans ug) os ag
    obtain ⟨og, vg, eg, zg, dg⟩ := fl.there
    have off : a ∉ frs (X.env :: X.outer) := fun m => by
      obtain ⟨_, o', e', q⟩ := (fl.2.2.1).mem m
      rw [eg] at e'; cases e'
      exact q _ dg
    have nl : a ≠ X.env.locals := fun z => off (List.mem_filterMap.mpr ⟨X.env, List.mem_cons_self, by rw [hf, z]⟩)
    have nf : a ∉ X.fs := fun m => by
      obtain ⟨e', m', q⟩ := List.mem_filterMap.mp m
      exact off (List.mem_filterMap.mpr ⟨e', List.mem_cons_of_mem _ m', q⟩)
    have bn : B.get? a = none := fl.2.1
    have away : ∀ b o, sI.heap.get? b = some o → b ∉ frs (X.env :: X.outer) → b ≠ a := fun b o q m z => by
      have := nb b o q (by show b ∉ frs X.stack; rw [hs]; exact m)
      rw [z, bn] at this; cases this
    refine wpAny_handleBy_cons (codeAny_handlers_test ?_) (by intro q; cases q)
    have ty : PySem.W.Looks (model X.prog X.w) g (typeOf (.ref a)) cls := fun A Q E z kk q => wpAny_typeOf_ref (kk _ _ eg) (by rw [zg.1]; exact q)
    have me := PySem.W.exm_one (M := model X.prog X.w) Jg.kIn ty k1
    have Sg := Jg.suite eg dg na nl nf
    have named : ∀ {Q E : Value → Shared → Prop}, Q c { t with heap := g } → wpAny (model X.prog X.w) (X.A.mark (some (.ref a))) (eval (.Name x np) X.env) Q E { t with heap := g } := by
      intro Q E q
      obtain ⟨y1, y2, y3⟩ := hc
      rcases y3 with y3 | ⟨y3, y4, y5⟩
      · exact ld_glob (X := X.suite a ((a, og) :: (X.pn ++ pp))) Sg y1 y3 q y2
      · exact ld_blt (X := X.suite a ((a, og) :: (X.pn ++ pp))) Sg y1 y3 y4 q y5 y2
    refine named (me.here ?_)
    cases k with
    | false =>
      show wpAny _ X.A (handleBy (.ref a) X.env []) _ _ _
      refine wpAny_handleBy_nil ?_
      have on : wpAny (model X.prog X.w) X.A (setFlight (.ref a) X.env.frame) (fun _ z => wpAny (model X.prog X.w) X.A (throw (.ref a) : Sem Flow) (SP X pp D) X.xe z) X.xe { t with heap := g } := by
        rw [hf]
        refine HandSPX.setFlight_upZ fl fun g2 hold u2 => wpAny_throw (tk _ _ ?_)
        exact ⟨a, B, sI, pp, σ', H', cls, d, rfl, J, nb, (up.trans ug).trans u2, .inr (.inr (by rw [hs]; exact hold)), na, os, ag, kno rfl⟩
      obtain ⟨_, _, _, o1, v1, T1, _, _, w1, _, w3, w4, _⟩ := id fl
      unfold PySem.passOn
      refine wpAny_bind (wpAny_field w1 w3 w4 ?_)
      rw [if_neg (by simp)]
      first
        | exact wpAny_bind on
        | exact wpAny_bind (wpAny_pure (wpAny_bind on))
    | true =>
      obtain ⟨dn, ky⟩ := kyes rfl
      subst dn
      refine codeAny_handlers_suite_as (HandSPX.lands_againZ fl fun g4 f4 u4 => ?_)
      have J4 : Inv X pp σ' H' { t with heap := g4 } := J.landed nb f4.1 ((up.trans ug).trans u4) os ag
      obtain ⟨o4, v4, e4, z4, d4⟩ := f4.there
      have S4 := J4.suite e4 d4 na nl nf
      refine store_ok (X := X.suite a ((a, o4) :: (X.pn ++ pp))) (v := .ref a) S4 hN hi (.inl hln) rfl (fun t5 S5 => ?_) (.inr hln)
      refine wpAny_mono ((hsu a o4 cls (X.pn ++ pp) z4 ⟨_, d4⟩).run [] t5 _ H' _ S5 (ky a na)) (fun fl6 t6 r6 => ?_) (fun _ _ z => z.elim)
      cases fl6 with
      | next =>
        obtain ⟨σ6, H6, S6, q6⟩ := r6
        obtain ⟨y1, y2, y3, y4, _⟩ := S6.pin (a, o4) (by simp)
        have J6 := S6.unsuite I.ok
        have T6 : Inv X pp σ6 (upd H6 a (ExH cls a)) t6 := track_inv J6 y1 y2 y3 z4.1 z4.2.1 d4 (by
            cases q : X.s_0.heap.get? a with
            | none => rfl
            | some o =>
              obtain ⟨o', q'⟩ := J.base.there a o q (by rw [hx]; exact fun z => by cases z)
              exact absurd rfl (away a o' q' off)) (fun p m => by
            obtain ⟨w1, w2, w3, w4, _⟩ := J.pin p m
            refine away p.1 p.2 w1 fun z => ?_
            obtain ⟨e', m', q'⟩ := List.mem_filterMap.mp z
            rcases List.mem_cons.mp m' with m' | m'
            · subst m'; rw [hf] at q'; exact w3 (Option.some.inj q').symm
            · exact w4 (List.mem_filterMap.mpr ⟨e', m', q'⟩))
        exact gone_ok T6 hN hi hln fun t7 J7 => ⟨_, _, J7, q6⟩
      | brk => obtain ⟨_, _, _, q6⟩ := r6; exact q6.elim
      | cont => obtain ⟨_, _, _, q6⟩ := r6; exact q6.elim
      | ret u => obtain ⟨_, _, _, _, _, q6⟩ := r6; exact q6.elim
  refine wpAny_Try_except (wpAny_mono ((hb _ (X.pn ++ pp) xe' catches PassesOwn.looking).run [] s σ H D (I.toTry _) h) (fun f t r => ?_) (fun _ _ z => z))
  cases f with
  | next => obtain ⟨σ1, H1, J1, q1⟩ := r; exact wpAny_execs_nil ⟨σ1, H1, J1.ofTry I.ok, q1⟩
  | brk => obtain ⟨σ1, H1, J1, q1⟩ := r; exact ⟨σ1, H1, J1.ofTry I.ok, q1⟩
  | cont => obtain ⟨σ1, H1, J1, q1⟩ := r; exact ⟨σ1, H1, J1.ofTry I.ok, q1⟩
  | ret u => obtain ⟨v1, σ1, H1, J1, r1, q1⟩ := r; exact ⟨v1, σ1, H1, J1.ofTry I.ok, r1, q1⟩
end
abbrev veMro : List Value := [.type "ValueError", .type "Exception", .type "BaseException", .type "object"]
structure XCls (K : PySem.W.Frag) (mg : Str → Option Value) (c : Str) (C : Addr) : Prop where
  n : PySem.W.nsIn K mainGlobals c = some (some (.ref C))
  g : mg c = some (.ref C)
  x : PySem.W.excIn K C veMro "ValueError.__new__" = true
  k : PySem.W.keepIn K (.ref C) = true
  b : PySem.W.subIn K (.ref C) (.type "BaseException") = some true
  t : PySem.W.typeIn K (.ref C) = some (.type "type")
  d : PySem.W.hasDictIn K C = true
  s : PySem.W.subIn K (.ref C) (.ref C) = some true
theorem XCls.cv {K : PySem.W.Frag} {mg : Str → Option Value} {c : Str} {C : Addr} (h : XCls K mg c C) : cvK K c = .ref C := by unfold cvK; rw [h.n]
theorem kit_own {K : PySem.W.Frag} {D C : Addr} {b : Bool} (hd : PySem.W.hasDictIn K C = true) (ht : PySem.W.typeIn K (.ref C) = some (.type "type")) (hs : PySem.W.subIn K (.ref C) (.ref C) = some true) (h : PySem.W.subIn K (.ref D) (.ref C) = some b) : PySem.W.kitOne K (.ref D) (.ref C) = some b := by
  unfold PySem.W.kitOne
  by_cases e : ((Value.ref D : Value) == .ref C) = true
  · rw [if_pos e]
    have e' := Value.ref.inj (beq_iff_eq.mp e)
    subst e'
    exact hs.symm.trans h
  · rw [if_neg e]
    obtain ⟨cd, hc, _⟩ := PySem.W.any_some hd
    show (if ((PySem.W.clsIn K C).isSome && PySem.W.typeIn K (.ref C) == some (.type "type")) = true then PySem.W.subIn K (.ref D) (.ref C) else none) = _
    rw [if_pos (by rw [hc, ht]; rfl), h]
theorem kit_blt {K : PySem.W.Frag} {D : Addr} {T : String} {b : Bool} (hm : PySem.W.kitMeta T = true) (h : PySem.W.subIn K (.ref D) (.type T) = some b) : PySem.W.kitOne K (.ref D) (.type T) = some b := by
  unfold PySem.W.kitOne
  rw [if_neg (by intro z; exact nomatch beq_iff_eq.mp z)]
  show (if PySem.W.kitMeta T = true then PySem.W.subIn K (.ref D) (.type T) else none) = _
  rw [if_pos hm, h]
theorem exm_cv {K : PySem.W.Frag} {mg : Str → Option Value} {c x : Str} {C CE : Addr} (h : XCls K mg c C) (hx : XCls K mg x CE) (s : PySem.W.subIn K (.ref C) (.ref CE) = some true) : PySem.W.exmOne K (cvK K c) (.ref CE) = some true := by
  rw [h.cv]
  exact PySem.W.exm_ref hx.b hx.d hx.t s
def sRaise (c : Str) : M Fl := fun e => .ex c e
section
variable {X : Cx} {cf : Cf} {W : WX}
theorem ss_raise {x m : Str} {C : Addr} {j : Nat} {p p2 pos pos' : Pos} (hK : cf.K = X.K) (hcv : cf.cv = cvK cf.K) (hc : X.calm = true) (tk : L2N.Takes X W) (T : XCls X.K X.mg x C) (hg : Gl X x := by rfl) (hdb : (x == ("__debug__" : Str)) = false := by decide) :
    SS X cf W (.Raise (some (.Call (.Name x p) [.Constant (.str m) j p2] [] pos')) none pos) (sRaise x) :=
  ⟨_, L2N.ps_raise hc tk (L2N.pmk_own PySem.F.excBase_ValueError T.x T.g T.k (raises_own T.b T.t) hg hdb), fun R Hs env σ H F wf r D hp => by
    have := hp Hs σ H F wf (Ex.refl _) r
    rw [hcv, hK, T.cv] at this
    exact this⟩
def sTryK (cs : List Str) (i j : Nat) (b : M Fl) : M Fl := fun e => match b e with
  | .ex c e' => if c ∈ cs ∧ j < e'.length then .ok .nx ((e'.set i (some (.exc c))).set j none) else .stuck
  | r => r
theorem Rel.unset {R : Rs} {Hs : Hp} {env : PEnv} {σ : L2.St} {H : Hp} {F : Nat → List Addr} {wf : List Addr} (r : Rel cf R Hs env σ H F wf) {j : Nat} (hw : cf.kd j ≠ .W) : Rel cf R Hs (env.set j none) (σ.set j none) H F wf where
  len := by rw [List.length_set, List.length_set]; exact r.len
  exs := r.exs
  ex0 := r.ex0
  dom0 := r.dom0
  slot := fun i d h => by
    rcases get_set h with ⟨rfl, e, hl⟩ | ⟨ne, h⟩
    · cases e
    · obtain ⟨w, h1, h2⟩ := r.slot i d h
      exact ⟨w, by rw [List.getElem?_set_ne ne]; exact h1, h2⟩
  nod := r.nod
  dis := r.dis
  fdom := r.fdom
  uns := r.uns
  new := r.new
  volw := r.volw
  volb := r.volb
  wdom := r.wdom
  ior := fun p h => by
    obtain ⟨h1, h2, h3, d', h4⟩ := r.ior p h
    have ne : j ≠ 0 := fun e => by subst e; exact hw h3
    exact ⟨by rw [List.getElem?_set_ne ne]; exact h1, h2, h3, d', by rw [List.getElem?_set_ne ne]; exact h4⟩
def tryT (X : Cx) (body : List Stmt) (W : WX) : TS := fun D σ H => ∀ (pn : List (Addr × Obj)) (xe : Value → Shared → Prop), L2N.Takes (X.tr pn xe) W → PassesOwn (model X.prog X.w) X.A X.env xe → ∃ t, PSs (X.tr pn xe) body t ∧ t D σ H
theorem tryT_ps {body : List Stmt} (W : WX) (pn : List (Addr × Obj)) (xe : Value → Shared → Prop) (tk : L2N.Takes (X.tr pn xe) W) (pw : PassesOwn (model X.prog X.w) X.A X.env xe) : PSs (X.tr pn xe) body (tryT X body W) := by
  constructor
  intro pp s σ H D I h
  obtain ⟨t, p, ht⟩ := h pn xe tk pw
  exact p.run pp s σ H D I ht
theorem tryT_sd {body : List Stmt} {fb : M Fl} {W' : WX} (hb : ∀ (W : WX) (pn : List (Addr × Obj)) (xe : Value → Shared → Prop), L2N.Takes (X.tr pn xe) W → PassesOwn (model X.prog X.w) X.A X.env xe → SSs (X.tr pn xe) cf W body fb)
    {R : Rs} {Hs : Hp} {env : PEnv} {σ : L2.St} {H : Hp} {F : Nat → List Addr} {wf : List Addr} (r : Rel cf R Hs env σ H F wf) {D : Ends} (hp : Post cf W' R Hs D (fb env)) : tryT X body W' D σ H := fun pn xe tk pw => by
  obtain ⟨t, p, sd⟩ := hb W' pn xe tk pw
  exact ⟨t, p, sd R Hs env σ H F wf r D hp⟩
theorem ss_tryK {body : List Stmt} {fb : M Fl} {x n y : Str} {cE : Value} {i j : Nat} {cs : List Str} {np pos pos' p1 p2 p3 : Pos} (hK : cf.K = X.K) (hcv : cf.cv = cvK cf.K) (hs : X.stack = X.env :: X.outer) (hf : X.env.frame = some X.env.locals) (hx : X.ex = []) (hN : X.N.Nodup) (hj : X.N[j]? = some n) (hln : X.env.kindOf n = some .local)
    (hi : X.N[i]? = some y) (hli : Loc X.env.scope y) (hij : i ≠ j) (hki : cf.kd i = .S) (hkj : cf.kd j = .S) (hc : Names X x cE) (tk : L2N.Takes X W) (hcs : ∀ c ∈ cs, PySem.W.exmOne X.K (cvK X.K c) cE = some true)
    (pn : ∀ (a : Addr) (pp : List (Addr × Obj)), PE (X.suite a pp) (.Name n p2) (tVar j)) (hsw : swapsWith (.Name n p2) (some (.Name y p1)) p3.line X.env = pure false) (hfl : X.fn y = true ∨ X.env.scope.names.lookup y = some .local)
    (hb : ∀ (W : WX) (pn : List (Addr × Obj)) (xe : Value → Shared → Prop), L2N.Takes (X.tr pn xe) W → PassesOwn (model X.prog X.w) X.A X.env xe → SSs (X.tr pn xe) cf W body fb) :
    SS X cf W (.Try body [.ExceptHandler (some (.Name x np)) (some n) [.Assign [.Name y p1] (.Name n p2) p3] pos'] [] [] pos) (sTryK cs i j fb) := by
  refine ⟨_, ps_try_kept (tb := tryT X body) (ts := fun _ _ => tAsg (tVar j) (gName i)) hs hf hx hN hj hln hc tk (fun W pn xe tk pw => tryT_ps W pn xe tk pw) (fun a oe cls pp _ _ => pss_one (ps_set (X := X.suite a ((a, oe) :: pp)) hN hi hli (pn a _) hsw hfl)), fun R Hs env σ H F wf r D hp => ?_⟩
  refine tryT_sd hb r ?_
  unfold sTryK at hp
  cases q : fb env with
  | ok f e => rw [q] at hp; cases f <;> exact hp
  | stuck => rw [q] at hp; exact hp
  | ex c e =>
    rw [q] at hp
    simp only at hp
    split at hp
    · rename_i hm
      intro Hs' σ' H' F' wf' ex r'
      refine ⟨true, by rw [hcv, hK]; exact hcs c hm.1, fun _ => ⟨rfl, fun a na => ?_⟩, fun z => by cases z⟩
      have hjl : j < σ'.length := by rw [← r'.len]; exact hm.2
      refine ⟨.ref a, by rw [List.getElem?_set_self hjl], ?_⟩
      have r2 := r'.grow (Ex.new (o := ExH (cf.cv c) a) na)
      have r3 := (r2.put (i := i) (v := .ref a) (d := .exc c) (by rw [hki]; exact fun z => by cases z) fun F' => by
        rw [hki]
        refine Rp.exc ?_
        rw [grow_none na, upd_same, hcv])
      have r4 := r3.unset (j := j) (by rw [hkj]; exact fun z => by cases z)
      have e1 : (((σ'.set j (some (.ref a))).set i (some (.ref a))).set j none) = (σ'.set i (some (.ref a))).set j none := by
        rw [show (σ'.set j (some (.ref a))).set i (some (.ref a)) = (σ'.set i (some (.ref a))).set j (some (.ref a)) from List.set_comm _ _ (Ne.symm hij), List.set_set]
      show D.nx _ _
      rw [e1]
      exact hp _ _ _ _ _ (ex.trans (Ex.grow r'.exs (Ex.new na))) r4
    · exact hp.elim
end
end MV
namespace MV
open PySem PySem.Spec PyProof.Rows L2
def excSub (c T : Str) : Bool := c == T || T == (Str.ofString "CoverError") || T == (Str.ofString "ValueError")
def gIsX (cs : List Str) (T : Str) : D → Option D
  | .exc c => if c ∈ cs then some (.bl (excSub c T)) else none
  | _ => none
def gIsXT (cs Ts : List Str) : D → Option D
  | .exc c => if c ∈ cs then some (.bl (Ts.any (excSub c))) else none
  | _ => none
def rIsX (K : PySem.W.Frag) : List V → Hp → VK → Prop := fun xs H Q => ∃ (a : Addr) (c : V) (u : Value) (C : Addr) (b : Bool), xs = [.ref a, c] ∧ ClsV c u ∧ H a = some (ExH (.ref C) a) ∧ ExcC K C ∧ PySem.W.kitOne K (.ref C) u = some b ∧ Q (.bl b) H
def rIsXT (K : PySem.W.Frag) : List V → Hp → VK → Prop := fun xs H Q => ∃ (a tp : Addr) (cs : List V) (us : List Value) (C : Addr) (b : Bool), xs = [.ref a, .ref tp] ∧ H tp = some (.tup cs) ∧ Paired ClsV cs us ∧ H a = some (ExH (.ref C) a) ∧ ExcC K C ∧ PySem.W.kitAny K (.ref C) us = some b ∧ Q (.bl b) H
section
variable {X : Cx} {cf : Cf} {W : WX} {c ca : Cls} {n n1 : Bool} {a : Expr} {ta : TE} {fa : M D} {pos : Pos}
theorem inst_of {pp : List (Addr × Obj)} {σ : L2.St} {H : Hp} {s : Shared} {a C : Addr} (I : Inv X pp σ H s) (h : H a = some (ExH (.ref C) a)) : ∃ ox, PySem.W.InstAt s.heap a ox C none := by
  obtain ⟨⟨oe, fs, h1, h2, h3, h4⟩, _⟩ := I.hok a _ h
  obtain ⟨oc, od, oda, osl⟩ := oe
  dsimp only at h2 h3 h4
  subst h2 h3 h4
  exact ⟨_, h1, rfl, rfl, trivial⟩
theorem call_isX : CallR X (.builtin "isinstance") (rIsX X.K) := by
  intro pp s σ H xs us Q I r h
  obtain ⟨a, c, u, C, b, rfl, k, ha, ex, e, q⟩ := h
  obtain ⟨u1, u2, rfl, r1, r2⟩ := vals2 r
  have e2 := k.eq r2
  subst e2
  cases (show u1 = Value.ref a from r1)
  obtain ⟨ox, J⟩ := inst_of I ha
  exact PySem.W.kia_one (PySem.W.handS_kitx_exc ex.hg ex.hk ex.hs ex.hd ex.ha ex.hn ex.ht ex.hm) I.kIn J e (fun z => nomatch z) fun tk => ⟨.bl b, H, I.tok tk, rfl, q⟩
theorem call_isXT : CallR X (.builtin "isinstance") (rIsXT X.K) := by
  intro pp s σ H xs us Q I r h
  obtain ⟨a, tp, cs, ws, C, b, rfl, hT, k, ha, ex, e, q⟩ := h
  obtain ⟨u1, u2, rfl, r1, r2⟩ := vals2 r
  cases (show u2 = Value.ref tp from r2)
  cases (show u1 = Value.ref a from r1)
  obtain ⟨ox, J⟩ := inst_of I ha
  obtain ⟨_, its, rv, o, h1, h2, m, h3⟩ := (show ObjOk X.prog X.w H s.heap tp (.tup cs) from I.hok tp _ hT)
  have e3 := ClsV.all k rv
  subst e3
  obtain ⟨oc, od, dt, sl⟩ := o
  simp only at h2 h3
  subst h2 h3
  exact PySem.W.kia_tup (PySem.W.handS_kitx_exc ex.hg ex.hk ex.hs ex.hd ex.ha ex.hn ex.ht ex.hm) I.kIn J h1 e (fun z => nomatch z) fun tk => ⟨.bl b, H, I.tok tk, rfl, q⟩
theorem Rp.exc_inv {K : PySem.W.Frag} {x : Bool} {G : Hp} {v : V} {c : Str} (h : Rp K x G v (.exc c)) : ∃ a, v = .ref a ∧ G a = some (ExH (cvK K c) a) := by
  cases h with
  | sc h => cases h
  | exc h => exact ⟨_, rfl, h⟩
theorem se_isX {cs : List Str} {T : Str} {b : Expr} {vT : V} {uT : Value} {p : Pos} (hK : cf.K = X.K) (hm : X.mg "isinstance" = none) (hv : ClsV vT uT) (hT : ∀ c ∈ cs, ∃ C, cvK X.K c = .ref C ∧ ExcC X.K C ∧ PySem.W.kitOne X.K (.ref C) uT = some (excSub c T)) (ha : SE X cf W ca n1 a ta fa) (pT : PE X b (tC vT)) (hg : Gl X "isinstance" := by rfl)
    (he : starEach [a, b] X.env = (false, eval a X.env) :: starEach [b] X.env := by rfl) (he2 : starEach [b] X.env = (false, eval b X.env) :: starEach [] X.env := by rfl) (hpl : (backTo pos (starEach [b] X.env)).any (·.1) = false := by rfl) :
    SE X cf W .V true (.Call (.Name "isinstance" p) [a, b] [] pos) (tCB (rIsX cf.K) (tCons ta (tCons (tC vT) tNil))) (e1 (gIsX cs T) fa) := by
  rw [hK]
  refine SE.low (c := .B) (n := true) ⟨pe_callB call_isX hg hm (by decide +kernel) (pa_cons ha.p (pa_cons pT pa_nil he2) he) (by decide) (by decide) he hpl, ?_⟩ (e1_sc fun x d h => by
    unfold gIsX at h
    split at h
    · split at h <;> cases h; rfl
    · cases h)
  refine Sd.mk (fun R Hs env σ H F wf r d env' q Q k => ?_) (fun R Hs env σ H F wf r x env' q Q k => ?_)
  · obtain ⟨d1, env1, q1, q2⟩ := bnd_ok q
    obtain ⟨qg, rfl⟩ := lift_ok q2
    refine ha.b.s.ok r q1 fun v Hs1 H1 s1 r1 p1 _ => ?_
    unfold gIsX at qg
    split at qg
    · split at qg
      · cases qg
        rename_i c _ hc
        obtain ⟨av, rfl, hav⟩ := p1.exc_inv
        obtain ⟨C, t1, t2, t3⟩ := hT c hc
        refine ⟨av, vT, uT, C, excSub c T, rfl, hv, ?_, t2, t3, k _ Hs1 H1 s1 r1 (.bl _) fun _ _ => .bl _⟩
        rw [← t1, ← hK]
        exact rm_sub H1 wf av _ hav
      · cases qg
    · cases qg
  · rcases bnd_ex q with q | ⟨d1, env1, q1, q2⟩
    · exact ha.b.s.exn r q k
    · exact (lift_ex q2).elim
def tCl : List V → TA
  | [] => tNil
  | v :: vs => tCons (tC v) (tCl vs)
theorem tCl_ok : ∀ (vs : List V) {σ : L2.St} {H : Hp} {Q : List V → Hp → Prop}, Q vs H → tCl vs σ H Q
  | [], _, _, _, h => h
  | v :: vs, _, _, _, h => tCl_ok vs h
theorem kit_any {K : PySem.W.Frag} {t : Value} {f : Str → Bool} : ∀ {us : List Value} {Ts : List Str}, Paired (fun u T => PySem.W.kitOne K t u = some (f T)) us Ts → PySem.W.kitAny K t us = some (Ts.any f)
  | _, _, .nil => rfl
  | u :: us, T :: Ts, .cons h r => by
    show (match PySem.W.kitOne K t u with | some true => some true | some false => PySem.W.kitAny K t us | none => none) = _
    rw [h, List.any_cons]
    cases f T with
    | true => rfl
    | false => exact kit_any r
theorem se_isXT {cs Ts : List Str} {es : List Expr} {vT : List V} {uT : List Value} {kk : Nat} {p pt : Pos} (hK : cf.K = X.K) (hm : X.mg "isinstance" = none) (hv : Paired ClsV vT uT) (hl : vT.length ≤ LIM) (hT : ∀ c ∈ cs, ∃ C, cvK X.K c = .ref C ∧ ExcC X.K C ∧ Paired (fun u T => PySem.W.kitOne X.K (.ref C) u = some (excSub c T)) uT Ts) (ha : SE X cf W ca n1 a ta fa) (pT : PA X es (tCl vT)) (hg : Gl X "isinstance" := by rfl)
    (he : starEach [a, .Tuple es kk pt] X.env = (false, eval a X.env) :: starEach [.Tuple es kk pt] X.env := by rfl) (he2 : starEach [.Tuple es kk pt] X.env = (false, eval (.Tuple es kk pt) X.env) :: starEach [] X.env := by rfl) (hpl : (backTo pos (starEach [.Tuple es kk pt] X.env)).any (·.1) = false := by rfl) :
    SE X cf W .V true (.Call (.Name "isinstance" p) [a, .Tuple es kk pt] [] pos) (tCB (rIsXT cf.K) (tCons ta (tCons (tTup (tCl vT)) tNil))) (e1 (gIsXT cs Ts) fa) := by
  rw [hK]
  refine SE.low (c := .B) (n := true) ⟨pe_callB call_isXT hg hm (by decide +kernel) (pa_cons ha.p (pa_cons (pe_tup pT) pa_nil he2) he) (by decide) (by decide) he hpl, ?_⟩ (e1_sc fun x d h => by
    unfold gIsXT at h
    split at h
    · split at h <;> cases h; rfl
    · cases h)
  refine Sd.mk (fun R Hs env σ H F wf r d env' q Q k => ?_) (fun R Hs env σ H F wf r x env' q Q k => ?_)
  · obtain ⟨d1, env1, q1, q2⟩ := bnd_ok q
    obtain ⟨qg, rfl⟩ := lift_ok q2
    refine ha.b.s.ok r q1 fun v Hs1 H1 s1 r1 p1 _ => ?_
    unfold gIsXT at qg
    split at qg
    · split at qg
      · cases qg
        rename_i c _ hc
        obtain ⟨av, rfl, hav⟩ := p1.exc_inv
        obtain ⟨C, t1, t2, t3⟩ := hT c hc
        refine tCl_ok vT ⟨lim_sz hl, fun tp htp => ?_⟩
        have hH : H1 av = some (ExH (cvK cf.K c) av) := rm_sub H1 wf av _ hav
        have x : Ex H1 (upd H1 tp (.tup vT)) := Ex.new htp
        refine ⟨av, tp, vT, uT, C, Ts.any (excSub c), rfl, upd_same, hv, ?_, t2, kit_any t3, ?_⟩
        · rw [← t1, ← hK]
          exact x _ _ hH
        · exact k _ (grow Hs1 H1 _) _ (s1.trans (Stp.grow r1.exs x)) (r1.grow x) (.bl _) fun _ _ => .bl _
      · cases qg
    · cases qg
  · rcases bnd_ex q with q | ⟨d1, env1, q1, q2⟩
    · exact ha.b.s.exn r q k
    · exact (lift_ex q2).elim
end
section
variable {e : PEnv} {b : M Fl} {f : M D} {i j : Nat} {cs Ts : List Str} {c T : Str}
@[simp] theorem r_sRaise : sRaise c e = .ex c e := (rfl)
def tryR (cs : List Str) (i j : Nat) (r : Res Fl) : Res Fl := match r with
  | .ex c e' => if c ∈ cs ∧ j < e'.length then .ok .nx ((e'.set i (some (.exc c))).set j none) else .stuck
  | r => r
@[simp] theorem tryR_ok {f : Fl} : tryR cs i j (.ok f e) = .ok f e := (rfl)
@[simp] theorem tryR_ex : tryR cs i j (.ex c e) = if c ∈ cs ∧ j < e.length then .ok .nx ((e.set i (some (.exc c))).set j none) else .stuck := (rfl)
@[simp] theorem r_sTryK : sTryK cs i j b e = tryR cs i j (b e) := (rfl)
@[simp] theorem gIsX_x : gIsX cs T (.exc c) = if c ∈ cs then some (.bl (excSub c T)) else none := (rfl)
@[simp] theorem gIsXT_x : gIsXT cs Ts (.exc c) = if c ∈ cs then some (.bl (Ts.any (excSub c))) else none := (rfl)
end
end MV
namespace MV
open PySem PySem.Spec PyProof.Rows L2
def rCnt (K : PySem.W.Frag) : V → List V → Hp → VK → Prop := fun x xs H Q => ∃ (a : Addr) (ys : List V) (y : V), x = .ref a ∧ xs = [y] ∧ SqL K H a ys ∧ flatV y = true ∧ ys.all flatV = true ∧ Q (.int (ys.countP (fun z => eqV z y) : Nat)) H
theorem countU {y : V} : ∀ {ys : List V} {us : List Value}, Vals ys us → ys.all flatV = true → us.countP (eqU y) = ys.countP fun z => eqV z y
  | _, _, .nil, _ => rfl
  | _, _, .cons r t, f => by
    rw [List.all_cons, Bool.and_eq_true] at f
    rw [List.countP_cons, List.countP_cons, countU t f.2, eqU_of r f.1]
theorem mt_cnt {X : Cx} : MtR X "list.count" (rCnt X.K) := by
  intro pp s σ H x xs v us Q I rx rxs h
  obtain ⟨a, ys, y, rfl, rfl, hs, fy, fys, q⟩ := h
  cases rx
  cases rxs with
  | cons ry rt =>
    rename_i uy ut
    cases rt
    obtain ⟨its, rv, ⟨⟨cls, dd, data, sl⟩, n, ho, hc, hdn, hd⟩, hlen⟩ := I.list hs
    simp only at hc hd
    subst hc hd
    refine call_meets PySem.F.slot_list_count ⟨_, ho, rfl⟩ PySem.F.entry_list_count (PySem.F.args_list_count_2 _ _) (SeqAt.list_countAt a its.toArray n dd sl uy (eqU y)) ⟨ho, fun u hu => mem_eqAt ry fy rv fys u (by simpa using hu), ?_⟩
    refine ⟨.int (ys.countP (fun z => eqV z y) : Nat), H, I.tok _, ⟨s.toks, ?_⟩, q⟩
    show Value.int ((its.toArray.toList.countP (eqU y) : Nat) : Int) s.toks = _
    rw [show its.toArray.toList = its by simp, countU rv fys]
def gCount : D → List D → Option D
  | .lst ds, [y] => if y.sc && ds.all D.sc then some (.int (ds.countP fun z => eqD z y : Nat)) else none
  | _, _ => none
theorem countD {K : PySem.W.Frag} {x : Bool} {G : Hp} {y : D} {v : V} (hy : y.toV = some v) : ∀ {xs : List V} {ds : List D}, RpL K x G xs ds → ds.all D.sc = true → (ds.countP fun z => eqD z y) = xs.countP fun z => eqV z v
  | _, _, .nil, _ => rfl
  | _, _, .cons h r, hs => by
    rw [List.all_cons, Bool.and_eq_true] at hs
    rw [List.countP_cons, List.countP_cons, countD hy r hs.2]
    unfold eqD
    rw [h.toV hs.1, hy]
theorem snd_count {K : PySem.W.Frag} : SndM K true "list" (rCnt K) gCount := fun G H x xs d1 ds d e h1 h2 q Q k => by
  unfold gCount at q
  split at q
  · rename_i ds y
    split at q
    · rename_i hs
      rw [Bool.and_eq_true] at hs
      cases q
      obtain ⟨v, rfl, hv⟩ := h2.one
      obtain ⟨a, ys, rfl, s1, r1⟩ := h1.lst_inv
      have hy := hv.toV hs.1
      refine ⟨a, ys, v, rfl, rfl, ex_sql e s1.any, flatV_of hy, flatV_all r1 hs.2, ?_⟩
      rw [← countD hy r1 hs.2]
      exact k_sc k rfl
    · cases q
  · cases q
theorem sc_count : ∀ x xs d, gCount x xs = some d → d.sc = true := fun x xs d q => by
  unfold gCount at q
  split at q
  · split at q <;> cases q; rfl
  · cases q
def gAny : List D → Option D
  | [.lst ds] => if ds.all fun x => (asB x).isSome then some (.bl (ds.any fun x => asB x == some true)) else none
  | _ => none
def gIsiT (Ts : List String) (d : D) : Option D := match d.ty with
  | some a => some (.bl (Ts.any (isiB a)))
  | none => none
section
variable {X : Cx} {cf : Cf} {W : WX} {c ca : Cls} {n n1 n2 : Bool}
theorem se_count {o e : Expr} {es : List Expr} {to : TE} {tA : TA} {fo : M D} {fA : M (List D)} {apos cpos : Pos} (hK : cf.K = X.K) (ho : SE X cf W c n1 o to fo) (ha : SA X cf W c (e :: es) tA fA)
    (hbase : attributeBase o "count" X.env (eval o X.env) = eval o X.env := by rfl)
    (hfew : ((backTo cpos (starEach (e :: es) X.env)).all (fun x => !x.1) && (backToKw cpos (keywordEach [] X.env)).all (fun x => x.1.isSome)
      && decide ((e :: es).length + ([] : List Keyword).length + (if ([] : List Keyword).isEmpty then 0 else 1) < 30)) = true := by rfl)
    (hline : (apos.endLine == cpos.line) = true := by rfl) (hs : starEach (e :: es) X.env = (false, eval e X.env) :: starEach es X.env := by rfl) (hplain : (backTo cpos (starEach es X.env)).any (·.1) = false := by rfl) :
    SE X cf W .V true (.Call (.Attribute o "count" apos) (e :: es) [] cpos) (tBM cf.K "list" (rCnt cf.K) to tA) (eM "list" gCount fo fA) :=
  SE.low (c := c) (n := true) ⟨hK ▸ pe_bm PySem.F.plainAttrs_list PySem.F.slot_list_count PySem.F.type_list_count mt_cnt ho.p ha.p hbase hfew hline hs hplain, sd_bm (.inl rfl) snd_count ho.s ha.s⟩ (scM sc_count)
end
section
variable {e : PEnv} {f : M D} {r : M (List D)} {tg : D → M Unit} {i j : Nat}
@[simp] theorem r_sUnp : sUnp f tg e = rb (f e) fun d e => rb (tg d e) fun _ e => .ok .nx e := (rfl)
end
section
variable {ds : List D} {y : D} {Ts : List String} {i : Int} {x : Str} {b : Bool}
@[simp] theorem gCount_l : gCount (.lst ds) [y] = if y.sc && ds.all D.sc then some (.int (ds.countP fun z => eqD z y : Nat)) else none := (rfl)
@[simp] theorem gAny_l : gAny [.lst ds] = if ds.all fun x => (asB x).isSome then some (.bl (ds.any fun x => asB x == some true)) else none := (rfl)
@[simp] theorem gIsiT_i : gIsiT Ts (.int i) = some (.bl (Ts.any (isiB "int"))) := (rfl)
@[simp] theorem gIsiT_s : gIsiT Ts (.str x) = some (.bl (Ts.any (isiB "str"))) := (rfl)
@[simp] theorem gIsiT_b : gIsiT Ts (.bl b) = some (.bl (Ts.any (isiB "bool"))) := (rfl)
@[simp] theorem gIsiT_l : gIsiT Ts (.lst ds) = some (.bl (Ts.any (isiB "list"))) := (rfl)
@[simp] theorem gIsiT_t : gIsiT Ts (.tup ds) = some (.bl (Ts.any (isiB "tuple"))) := (rfl)
@[simp] theorem gIsiT_n : gIsiT Ts .non = some (.bl (Ts.any (isiB "NoneType"))) := (rfl)
end
end MV
namespace MV
open PySem PySem.Spec PyProof.Rows L2
def ePopW (i : Nat) (f : M D) : M D := fun e => match lstAt i e with
  | none => .stuck
  | some _ => bnd f (fun k => fun e => match lstAt i e, k with
    | some ds, .int z => match ixN ds.length z with
      | some j => match ds[j]? with
        | some d => if ds.length ≤ LIM then .ok d (e.set i (some (.lst (ds.eraseIdx j)))) else .stuck
        | none => .stuck
      | none => .stuck
    | _, _ => .stuck) e
def eLenW (i : Nat) : M D := fun e => match lstAt i e with
  | some ds => .ok (.int ds.length) e
  | none => .stuck
def sRetW (i : Nat) : M Fl := fun e => match lstAt i e with
  | some ds => .ok (.rt (.lst ds)) (e.set i none)
  | none => .stuck
theorem RpL.eraseIdx {K : PySem.W.Frag} {x : Bool} {G : Hp} : ∀ {xs : List V} {ds : List D} (j : Nat), RpL K x G xs ds → RpL K x G (xs.eraseIdx j) (ds.eraseIdx j)
  | _, _, j, .nil => by simp; exact .nil
  | _, _, 0, .cons h r => r
  | _, _, j + 1, .cons h r => .cons h (RpL.eraseIdx j r)
section
variable {X : Cx} {cf : Cf} {W : WX} {c : Cls} {n n1 n2 : Bool}
end
section
variable {e : PEnv} {f : M D} {i : Nat} {z : Str}
@[simp] theorem r_ePopW : ePopW i f e = ro (lstO (e[i]?)) fun _ => rb (f e) fun k e => ro (lstO (e[i]?)) fun ds => ro (asInt k) fun z => ro (L2.ixN ds.length z) fun j => ro (ds[j]?) fun d => if ds.length ≤ LIM then .ok d (e.set i (some (.lst (ds.eraseIdx j)))) else .stuck := by
  unfold ePopW
  show _ = ro (lstAt i e) _
  cases lstAt i e with
  | none => rfl
  | some ds =>
    show rb (f e) _ = _
    simp only [ro_some]
    congr 1; funext k e
    show _ = ro (lstAt i e) _
    cases lstAt i e with
    | none => rfl
    | some ds =>
      simp only [ro_some]
      cases k <;> first | rfl | (simp only [asInt_int, ro_some]; cases L2.ixN ds.length _ with | none => rfl | some j => (simp only [ro_some]; cases ds[j]? <;> rfl))
@[simp] theorem r_eLenW : eLenW i e = ro (lstO (e[i]?)) fun ds => .ok (.int ds.length) e := by
  unfold eLenW
  show _ = ro (lstAt i e) _
  cases lstAt i e <;> rfl
@[simp] theorem r_sRetW : sRetW i e = ro (lstO (e[i]?)) fun ds => .ok (.rt (.lst ds)) (e.set i none) := by
  unfold sRetW
  show _ = ro (lstAt i e) _
  cases lstAt i e <;> rfl
@[simp] theorem gList1_s : gList1 [.str z] = if z.length ≤ LIM then some (.lst (chD z)) else none := (rfl)
end
end MV
namespace MV
open PySem PySem.Spec PyProof.Rows L2
def SdOw (cf : Cf) (W : WX) (te : TE) (f : M D) : Prop :=
  ∀ (R : Rs) (Hs : Hp) (env : PEnv) (σ : L2.St) (H : Hp) (F : Nat → List Addr) (wf : List Addr), Rel cf R Hs env σ H F wf → ∀ Q : VK,
    match f env with
    | .ok d env' => (∀ v Hs' H' G, Stp cf wf env Hs H env' Hs' H' → Rel cf R Hs' env' σ H' F wf → Own cf.K (TH (rs (rm Hs' G) H)) H' G v d → G.Nodup → (∀ a ∈ G, H a = none ∧ H' a ≠ none) → Q v H') → te σ H Q
    | .ex x env' => (∀ Hs' H', Stp cf wf env Hs H env' Hs' H' → Rel cf R Hs' env' σ H' F wf → W (cf.cv x) none σ H') → te σ H Q
    | .stuck => True
def SdAw (cf : Cf) (W : WX) (ta : TA) (f : M (List D)) : Prop :=
  ∀ (R : Rs) (Hs : Hp) (env : PEnv) (σ : L2.St) (H : Hp) (F : Nat → List Addr) (wf : List Addr), Rel cf R Hs env σ H F wf → ∀ Q : List V → Hp → Prop,
    match f env with
    | .ok ds env' => (∀ vs Hs' H' G, Stp cf wf env Hs H env' Hs' H' → Rel cf R Hs' env' σ H' F wf → OwnL cf.K emp H' G vs ds → G.Nodup → (∀ a ∈ G, H a = none ∧ H' a ≠ none) → Q vs H') → ta σ H Q
    | .ex x env' => (∀ Hs' H', Stp cf wf env Hs H env' Hs' H' → Rel cf R Hs' env' σ H' F wf → W (cf.cv x) none σ H') → ta σ H Q
    | .stuck => True
structure SEO (X : Cx) (cf : Cf) (W : WX) (e : Expr) (t : TE) (f : M D) : Prop where
  p : PE X e t
  s : SdOw cf W t f
structure SAO (X : Cx) (cf : Cf) (W : WX) (es : List Expr) (t : TA) (f : M (List D)) : Prop where
  p : PA X es t
  s : SdAw cf W t f
section
variable {X : Cx} {cf : Cf} {W : WX} {c : Cls} {n n1 n2 : Bool} {i : Nat}
def gLstO (ds : List D) : Option D := if ds.length ≤ LIM then some (.lst ds) else none
def gTupO (ds : List D) : Option D := if ds.length ≤ LIM then some (.tup ds) else none
end
section
variable {ds : List D}
@[simp] theorem gLstO_ : gLstO ds = if ds.length ≤ LIM then some (.lst ds) else none := (rfl)
@[simp] theorem gTupO_ : gTupO ds = if ds.length ≤ LIM then some (.tup ds) else none := (rfl)
end
end MV
namespace MV
open PySem PySem.Spec PyProof.Rows L2
section
variable {X : Cx} {cf : Cf} {W : WX}
end
end MV
namespace MV
open PySem PySem.Spec PyProof.Rows L2
section
variable {P : Program} {w : World} {A : Around} {E : Value → Shared → Prop} {s : Shared}
set_option maxHeartbeats 8000000 in
theorem call_set_lstI {l : Addr} {items : Array Value} (ns : List Int) {Q : Value → Shared → Prop} (hh : A.handled = none) (hl : s.heap.IsList l items) (hit : IntsAre items.toList ns) (hb : ns.length + 1 < scanBound)
    (h : ∀ (h' : Heap) (tk c : Nat), SetR w h' s.heap.objs.size (fun j => decide (j ∈ ns)) c → c ≤ ns.length → (∀ b o, s.heap.get? b = some o → h'.get? b = some o) → Q (.ref s.heap.objs.size) { s with heap := h', toks := tk }) :
    wpAny (model P w) A (call (.type "set") [.ref l]) Q E s := by
  have hisz : items.size = ns.length := by
    have q := IntsAre.length hit
    rw [Array.length_toList] at q
    exact q
  obtain ⟨c, tl, hmro⟩ := F.called_set.mro
  have hmade := F.called_set.made
  have hsub := F.called_set.sub
  refine wpAny_call (codeAny_of_tree ?_)
  show wpAny _ _ (callAny (.type "set") _) _ _ _
  refine wpAny_pure ⟨Code.quiet_builtin _ (by decide +kernel), codeAny_builtin F.entry_type_call ?_⟩
  rw [Around.under_plain (weight_type_call_type "set" [.ref l] []) rfl]
  have h1 := F.called_set.notType
  have h2 := F.called_set.canCreate
  have hct := F.typeCall_set_1 (.ref l)
  repeat (any_goals (first | assumption | wp_step))
  refine codeAny_mono (code_set_led1 (.ref l) (E := E) (Q₁ := fun obj s₁ => obj = .ref s.heap.objs.size ∧ s₁ = { s with heap := s.heap.push { cls := .type "set", dict := none, data := .set #[] 0 (.fresh 0 0 (!w.params.followText "set-order")) } }) ⟨rfl, rfl⟩) fun r s₁ hr => ?_
  cases r with
  | error e => exact hr
  | ok fl =>
    cases fl with
    | ret obj =>
      obtain ⟨rfl, rfl⟩ := hr
      have hS : (s.heap.push { cls := .type "set", dict := none, data := .set #[] 0 (.fresh 0 0 (!w.params.followText "set-order")) }).get? s.heap.objs.size = some { cls := .type "set", dict := none, data := .set #[] 0 (.fresh 0 0 (!w.params.followText "set-order")) } := Heap.get?_push_size _ rfl
      have hT : Shared.TypeIs { s with heap := s.heap.push { cls := .type "set", dict := none, data := .set #[] 0 (.fresh 0 0 (!w.params.followText "set-order")) } } (.ref s.heap.objs.size) "set" := ⟨_, hS, rfl⟩
      have hli := F.called_set.init.lookup
      have hbi := F.called_set.init.bind (.ref s.heap.objs.size)
      repeat (any_goals (first | assumption | wp_step))
      refine codeAny_mono (codeAny_call_builtin (R := wants (fun r s₂ => r = .none ∧ ∃ h' tk c, s₂ = { s with heap := h', toks := tk } ∧ SetR w h' s.heap.objs.size (fun j => decide (j ∈ ns)) c ∧ c ≤ ns.length ∧
          (∀ b o, s.heap.get? b = some o → h'.get? b = some o)) E) F.called_set.init.plain F.entry_set_init (check_set_init_1 hT ?_)) fun r₂ s₂ hr₂ => ?_
      · obtain ⟨ol, hol, hcl, nl, hdl⟩ := hl
        obtain ⟨ocls, odict, odata, oslots⟩ := ol
        simp only at hcl hdl
        subst hcl; subst hdl
        have hol' : (s.heap.push { cls := .type "set", dict := none, data := .set #[] 0 (.fresh 0 0 (!w.params.followText "set-order")) }).get? l = some { cls := .type "list", dict := odict, data := .seq items nl, slots := oslots } := Heap.get?_push_of_some _ hol
        have hsls := F.sub_list_set
        have hslf := F.sub_list_frozenset
        have hne : (Value.type "list" == Value.type "dict") = false := by decide
        have hl1 : (s.heap.push { cls := .type "set", dict := none, data := .set #[] 0 (.fresh 0 0 (!w.params.followText "set-order")) }).IsList l items := ⟨_, hol', rfl, nl, rfl⟩
        unfold Builtin.«set.__init__» noKeywords Builtin.Frozenset.updateFrom
        generalize hPI : pyIter = PI
        wp_walk
        subst hPI
        refine wpAny_pyIter_list hl1 ?_
        refine wpAny_bind (wpAny_runValue ?_)
        have hlS : l < s.heap.objs.size := Heap.lt_size hol
        have hh3 : A.in1.in1.in1.handled = none := by simp [hh]
        have hneI : l ≠ (s.heap.push { cls := .type "set", dict := none, data := .set #[] 0 (.fresh 0 0 (!w.params.followText "set-order")) }).objs.size := by
          rw [Heap.size_push]; exact Nat.ne_of_lt (Nat.lt_succ_of_lt hlS)
        have hSf : s.heap.objs.size ∉ [(s.heap.push { cls := .type "set", dict := none, data := .set #[] 0 (.fresh 0 0 (!w.params.followText "set-order")) }).objs.size, l] := by
          rw [Heap.size_push]; simp only [List.mem_cons, List.mem_singleton, List.not_mem_nil, or_false, not_or]
          exact ⟨Nat.ne_of_lt (Nat.lt_succ_self _), Nat.ne_of_gt hlS⟩
        have hval : ∀ (i : Nat) (v : Value), items[i]? = some v → ∃ k t, ns[i]? = some k ∧ v = .int k t := fun i v hv => by
          have hi : i < ns.length := by rw [← hisz]; exact (Array.getElem?_eq_some_iff.mp hv).1
          obtain ⟨t, e⟩ := PyProof.Rows.IntsAre.int_at hit i v (by rw [Array.getElem?_toList]; exact hv)
          refine ⟨ns[i], t, List.getElem?_eq_getElem hi, ?_⟩
          rw [e, List.getD_eq_getElem?_getD, List.getElem?_eq_getElem hi] <;> rfl
        refine set_update_ints ((Walks.list hh3 _ l hneI items).toS) s.heap.objs.size
          hSf ns hisz hb hval (items.size - 0) 0 _ (by omega) (Nat.zero_le _)
          ⟨⟨_, Heap.get?_push_size _ rfl, rfl, rfl⟩, (hl1.push _)⟩ ?hS0 ?hR
        case hS0 =>
          have hget : ((s.heap.push { cls := .type "set", dict := none, data := .set #[] 0 (.fresh 0 0 (!w.params.followText "set-order")) }).push { cls := .type "list_iterator", data := .fields #[.ref l, .int 0 0] }).get? s.heap.objs.size
              = some { cls := .type "set", dict := none, data := .set #[] 0 (.fresh 0 0 (!w.params.followText "set-order")) } := Heap.get?_push_of_some _ hS
          exact ⟨0, Nat.le_refl 0, setR_new_at hget⟩
        case hR =>
          intro s' c' hm hc' hS'
          obtain ⟨h', g2, d', tk', os'⟩ := s'
          have eg : g2 = s.gens := hm.gens
          have ed : d' = s.drawn := hm.drawn
          have eo : os' = s.os := hm.os
          subst eg; subst ed; subst eo
          show wpAny _ _ _ _ _ _
          refine wpAny_pure ?_
          show wpAny _ _ (PySem.ret Value.none) _ _ _
          rw [hisz] at hc'
          refine wpAny_pure ⟨rfl, h', tk', c', rfl, hS', hc', fun b o e => ?_⟩
          have hb0 : b < s.heap.objs.size := Heap.lt_size e
          have hb1 : b ≠ s.heap.objs.size := Nat.ne_of_lt hb0
          have hb2 : b ≠ (s.heap.push { cls := .type "set", dict := none, data := .set #[] 0 (.fresh 0 0 (!w.params.followText "set-order")) }).objs.size := by
            rw [Heap.size_push]; exact Nat.ne_of_lt (Nat.lt_succ_of_lt hb0)
          exact hm.heap b o (by simp only [List.mem_cons, List.mem_singleton, List.not_mem_nil, or_false, not_or]; exact ⟨hb1, hb2⟩) (Heap.get?_push_of_some _ (Heap.get?_push_of_some _ e))
      · cases r₂ with
        | error e => exact hr₂
        | ok fl₂ =>
          cases fl₂ with
          | ret r =>
            obtain ⟨rfl, h', tk, c', rfl, hS', hc', hk'⟩ := hr₂
            repeat (any_goals (first | assumption | wp_step))
            exact h _ _ _ hS' hc' hk'
          | _ => exact hr₂.elim
    | _ => exact hr.elim
theorem sort_tail {vs : List Value} {ns : List Int} {Q : Value → Shared → Prop} (hI : IntsAre vs ns) (hz : vs.length ≤ sizeLine)
    (h : ∀ (h' : Heap) (out : List Value) (c : Nat), (∀ b o, s.heap.get? b = some o → h'.get? b = some o) → h'.get? s.heap.objs.size = some (seqObj "list" out.toArray c) → IntsAre out (out.map SrtO.iv) → (out.map SrtO.iv).Perm ns → (out.map SrtO.iv).Pairwise (· ≤ ·) → Q (.ref s.heap.objs.size) { s with heap := h' }) :
    wpAny (model P w) A (newList vs >>= fun l => holding [l] (call (.builtin "list.sort") [l]) >>= fun _ => pure (PySem.Fin.done (.ret l))) (fun f s' => ∃ v, f = .done (.ret v) ∧ Q v s') E s := by
  refine wpAny_bind (wpAny_newList ?_ hz)
  have hoL : (s.heap.push (seqObj "list" vs.toArray 0)).get? s.heap.objs.size = some (seqObj "list" vs.toArray 0) := Heap.get?_push_size _ rfl
  show wpAny _ _ _ _ _ { s with heap := s.heap.push (seqObj "list" vs.toArray 0) }
  refine wpAny_bind (wpAny_holding (wpAny_call_entry PyProof.Rows.slot_list_sort ⟨_, hoL, rfl⟩ PyProof.Rows.entry_list_sort
    (SrtO.list_sort_ord (s := { s with heap := s.heap.push (seqObj "list" vs.toArray 0) }) SrtO.swo_int hoL hz (fun h2 => SrtO.ints_sortable hI h2) fun out h1 h2 => ⟨_, rfl, ?_⟩) (PyProof.Rows.args_list_sort _)))
  obtain ⟨k1, k2, k3⟩ := SrtO.ints_out hI h1 h2
  obtain ⟨e', he'⟩ := PyProof.Rows.sortedHeap_at (vs := vs) (out := out.toArray) hoL
  refine wpAny_pure ⟨_, rfl, h _ out e' (fun b u e => ?_) he' k1 k2 k3⟩
  have hb : b < s.heap.objs.size := Heap.lt_size e
  show (sortedHeap (s.heap.push (seqObj "list" vs.toArray 0)) s.heap.objs.size vs out.toArray).get? b = some u
  rw [PyProof.Rows.sortedHeap_old (Nat.ne_of_lt hb) (by rw [size_push']; exact Nat.lt_succ_of_lt hb)]
  exact Heap.get?_push_of_some _ e
end
section
variable {X : Cx}
def rSetL (K : PySem.W.Frag) (w : World) : List V → Hp → VK → Prop := fun xs H Q => ∃ (l : Addr) (ns : List Int), xs = [.ref l] ∧ SqL K H l (ns.map V.int) ∧ ns.length ≤ 4000 ∧ ∀ p c, H p = none → c ≤ ns.length → Q (.ref p) (upd H p (SetO w p (fun j => decide (j ∈ ns)) c))
theorem cr_setL (hc : X.calm = true) : CallR X (.type "set") (rSetL X.K X.w) := by
  intro pins s σ H xs us Q I r h
  obtain ⟨l, ns, rfl, hq, hl, q⟩ := h
  obtain ⟨its, rv, pl, hz⟩ := I.list hq
  rw [Vals.ref1 r]
  refine call_set_lstI ns (I.ok.hd hc) pl.isList (by simpa using ints_of_vals rv) (by unfold scanBound; omega) fun h' tk c R hcn k => ?_
  exact ⟨.ref _, upd H s.heap.objs.size (SetO X.w s.heap.objs.size (fun j => decide (j ∈ ns)) c), I.laid (t' := tk) k (Nat.le_refl _) (setO_new R), rfl, q _ c (I.hok.fresh (Nat.le_refl _)) hcn⟩
def rSortedSN (w : World) : List V → Hp → VK → Prop := fun vs H Q => ∃ (a : Addr) (S : Int → Bool) (n : Nat), vs = [V.ref a] ∧ H a = some (SetO w a S n) ∧
  ∀ (ns : List Int) (p : Addr), ns.Pairwise (· < ·) → (∀ k : Int, k ∈ ns ↔ S k = true) → H p = none → Q (.ref p) (upd H p (.lst (ns.map V.int)))
theorem cr_sortedSN (hc : X.calm = true) : CallR X (.builtin "sorted") (rSortedSN X.w) := by
  intro pins s σ H vs us Q I r h
  obtain ⟨a, S, n, rfl, ha, q⟩ := h
  have R := setO_get I ha
  rw [Vals.ref1 r]
  obtain ⟨o, es, ep, t, ho, hex, hd, g, nd, hm, hb, hf, hn, hr, hl⟩ := R
  refine Calls.call_function_entry kind_sorted plain_sorted entry_sorted (args_sorted1 _) ?_
  unfold Builtin.«sorted»
  refine wpAny_bind (m := checkCount "sorted" 1 1 _) (wpAny_pure ?_)
  refine wpAny_bind (collect_set (A := X.A.in1) (I.ok.hd hc) ⟨o, ho, hex.1, hd⟩ hf hb hr hl fun s1 vs k1 hz g1 o1 pm => ?_)
  have hvl : vs.length = n := by rw [pm.length_eq, List.length_map, Array.length_toList]; exact hn
  have hI : IntsAre vs (vs.map Builtin.Re.reRawOf) := ints_of vs fun v hv => by
    obtain ⟨e, he, q⟩ := List.mem_map.mp (pm.mem_iff.mp hv)
    obtain ⟨k, tk, h1, _⟩ := g e he
    exact ⟨k, tk, by rw [← q]; exact h1⟩
  have pk : (vs.map Builtin.Re.reRawOf).Perm (es.toList.map keyOf) := by
    have q := pm.map Builtin.Re.reRawOf
    rw [List.map_map] at q
    exact q
  have hzz : vs.length ≤ sizeLine := by rw [hvl, ← hn]; exact fits_of_scanBound hb
  refine sort_tail hI hzz fun h' out c k2 hp j1 j2 j3 => ?_
  have pn := j2.trans pk
  have hlen : ((out.map SrtO.iv).map V.int).length ≤ sizeLine := by rw [List.length_map, j2.length_eq, List.length_map]; exact hzz
  have hnn : H s1.heap.objs.size = none := I.hok.fresh hz
  have J : Inv X pins σ (upd H s1.heap.objs.size (.lst ((out.map SrtO.iv).map V.int))) { s with heap := h', gens := s1.gens, drawn := s1.drawn, toks := s1.toks } :=
    I.call (ch := []) (Un.laid (fun b o e => k2 b o (k1 b o e)) hz hnn) (I.hok.laid (fun b o e => k2 b o (k1 b o e)) hz ⟨hlen, out, c, vals_of_ints j1, hp⟩) (by rw [g1]; exact I.bare) (fun _ z => nomatch z)
  have e : ({ s1 with heap := h' } : Shared) = { s with heap := h', gens := s1.gens, drawn := s1.drawn, toks := s1.toks } := by
    cases s1
    cases s
    cases o1
    rfl
  rw [e]
  exact ⟨.ref _, _, J, rfl, q _ _ (lt_of_le_nodup _ j3 (pn.nodup_iff.mpr nd)) (fun k => by rw [pn.mem_iff, ← hm k]) hnn⟩
end
end MV
namespace MV
open PySem PySem.Spec PyProof.Rows L2
def insD (k : Int) : List Int → List Int
  | [] => [k]
  | x :: r => if k < x then k :: x :: r else if k = x then x :: r else x :: insD k r
def dsI (ns : List Int) : List Int := ns.foldr insD []
theorem mem_insD {k y : Int} : ∀ {l : List Int}, y ∈ insD k l ↔ y = k ∨ y ∈ l
  | [] => by simp [insD]
  | x :: r => by
    unfold insD
    split
    · simp
    · split
      · rename_i h; subst h; simp
      · simp only [List.mem_cons, mem_insD (l := r)]
        constructor
        · rintro (h | h | h)
          · exact .inr (.inl h)
          · exact .inl h
          · exact .inr (.inr h)
        · rintro (h | h | h)
          · exact .inr (.inl h)
          · exact .inl h
          · exact .inr (.inr h)
theorem lt_insD {k : Int} : ∀ {l : List Int}, l.Pairwise (· < ·) → (insD k l).Pairwise (· < ·)
  | [], _ => List.pairwise_singleton _ _
  | x :: r, h => by
    obtain ⟨h1, h2⟩ := List.pairwise_cons.mp h
    unfold insD
    split
    · rename_i hk
      refine List.pairwise_cons.mpr ⟨fun y hy => ?_, h⟩
      rcases List.mem_cons.mp hy with rfl | hy
      · exact hk
      · have := h1 y hy; omega
    · split
      · exact h
      · refine List.pairwise_cons.mpr ⟨fun y hy => ?_, lt_insD h2⟩
        rcases mem_insD.mp hy with rfl | hy
        · omega
        · exact h1 y hy
theorem mem_dsI {y : Int} : ∀ {ns : List Int}, y ∈ dsI ns ↔ y ∈ ns
  | [] => Iff.rfl
  | n :: ns => by
    show y ∈ insD n (dsI ns) ↔ _
    rw [mem_insD, mem_dsI (ns := ns), List.mem_cons]
theorem lt_dsI : ∀ ns : List Int, (dsI ns).Pairwise (· < ·)
  | [] => List.Pairwise.nil
  | n :: ns => lt_insD (lt_dsI ns)
theorem lt_unique : ∀ {a b : List Int}, a.Pairwise (· < ·) → b.Pairwise (· < ·) → (∀ k, k ∈ a ↔ k ∈ b) → a = b := fun {a b} ha hb h => by
  refine List.Perm.eq_of_pairwise (le := (· < ·)) (fun x y _ _ h1 h2 => by omega) ha hb ?_
  refine (List.perm_ext_iff_of_nodup (ha.imp fun h => Int.ne_of_lt h) (hb.imp fun h => Int.ne_of_lt h)).mpr h
theorem dsI_of {ns : List Int} (h : ns.Pairwise (· < ·)) : dsI ns = ns := lt_unique (lt_dsI ns) h fun k => mem_dsI
def srtI (ns : List Int) : List Int := ns.mergeSort fun a b => decide (a ≤ b)
def keysI : List (Key × D) → Option (List Int)
  | [] => some []
  | (.inl i, _) :: r => (keysI r).map (i :: ·)
  | _ :: _ => none
def gSorted : List D → Option D
  | [.lst ds] => (asInts ds).map fun ns => .lst ((srtI ns).map .int)
  | [.dic kvs] => (keysI kvs).map fun ns => .lst ((srtI ns).map .int)
  | _ => none
def gSortSet : List D → Option D
  | [.lst ds] => match asInts ds with
    | some ns => if ns.length ≤ 4000 then some (.lst ((dsI ns).map .int)) else none
    | none => none
  | _ => none
theorem ints_rp {K : PySem.W.Frag} {x : Bool} {G : Hp} : ∀ ns : List Int, RpL K x G (ns.map V.int) (ns.map D.int)
  | [] => .nil
  | n :: ns => .cons (.int n) (ints_rp ns)
def rSortSet (K : PySem.W.Frag) (w : World) : List V → Hp → VK → Prop := fun xs H Q => rSetL K w xs H fun v H1 => rSortedSN w [v] H1 Q
theorem snd_sortSet {K : PySem.W.Frag} {w : World} : SndN K true (rSortSet K w) gSortSet := fun G H xs ds d e h q Q k => by
  unfold gSortSet at q
  split at q
  · rename_i es
    split at q
    · rename_i ns q1
      split at q
      · rename_i hl
        cases q
        obtain ⟨v, rfl, hv⟩ := h.one
        obtain ⟨a, ys, rfl, s1, r1⟩ := hv.lst_inv
        have s1 : G a = some (.lst ys) := s1
        rw [asInts_rp r1 q1] at s1
        refine ⟨a, ns, rfl, .inl (.inl (e _ _ s1)), hl, fun p c hp hc => ⟨p, _, c, rfl, upd_same, fun ns' p2 h1 h2 hp2 => ?_⟩⟩
        have en : ns' = dsI ns := lt_unique h1 (lt_dsI ns) fun j => by rw [h2, mem_dsI, decide_eq_true_iff]
        rw [en]
        have x1 := Ex.new (o := SetO w p (fun j => decide (j ∈ ns)) c) hp
        have np : H p2 = none := x1.back hp2
        have x2 := x1.trans (Ex.new (o := .lst ((dsI ns).map V.int)) hp2)
        refine k _ _ x2 (.lst ?_ (ints_rp _)) fun _ _ => .lst ?_ (ints_rp _)
        · exact SqLx.of (by rw [grow_none np, upd_same])
        · exact SqLx.of (by rw [nw_none np, upd_same])
      · cases q
    · cases q
  · cases q
section
variable {X : Cx} {cf : Cf} {W : WX} {c : Cls} {n n1 n2 : Bool}
theorem se_sortSet {e : Expr} {ta : TA} {fa : M (List D)} {p p2 pos pos2 : Pos} (hK : cf.K = X.K) (hc : X.calm = true) (hm : X.mg "sorted" = none) (hm2 : X.mg "set" = none) (ha : SA X cf W c [e] ta fa) (hg : Gl X "sorted" := by rfl) (hg2 : Gl X "set" := by rfl) (he : starEach [e] X.env = (false, eval e X.env) :: starEach [] X.env := by rfl)
    (he2 : starEach [.Call (.Name "set" p2) [e] [] pos2] X.env = (false, eval (.Call (.Name "set" p2) [e] [] pos2) X.env) :: starEach [] X.env := by rfl) :
    SE X cf W .V true (.Call (.Name "sorted" p) [.Call (.Name "set" p2) [e] [] pos2] [] pos) (tCB (rSortSet cf.K X.w) ta) (eF (eN gSortSet fa)) := by
  refine SE.flat ⟨?_, sd_opN snd_sortSet ha.s⟩
  have p1 : PE X (.Call (.Name "set" p2) [e] [] pos2) (tCB (rSetL cf.K X.w) ta) := pe_callTy (by rw [hK]; exact cr_setL hc) hg2 hm2 (by first | rfl | decide +kernel) ha.p (by decide) (by decide) he rfl
  exact pe_callB (t := tCons (tCB (rSetL cf.K X.w) ta) tNil) (cr_sortedSN hc) hg hm (by first | rfl | decide +kernel) (pa_cons p1 pa_nil he2) (by decide) (by decide) he2 rfl
end
end MV
namespace MV
open PySem PySem.Spec PyProof.Rows L2
def gR3 : List D → Option (List D)
  | [.int i, .int j, .int c] => if smallI i && smallI j && decide (c = -1) then some (rngC i (-1) (i - j).toNat) else none
  | _ => none
theorem RpL.three {K : PySem.W.Frag} {x : Bool} {G : Hp} {xs : List V} {d e f : D} (h : RpL K x G xs [d, e, f]) : ∃ v w u, xs = [v, w, u] ∧ Rp K x G v d ∧ Rp K x G w e ∧ Rp K x G u f := by
  cases h with
  | cons h1 r =>
    obtain ⟨w, u, rfl, h2, h3⟩ := r.two
    exact ⟨_, w, u, rfl, h1, h2, h3⟩
section
variable {X : Cx} {cf : Cf} {W : WX} {c : Cls} {n n1 n2 : Bool} {tg : Expr}
theorem si_range3 {a b b2 : Expr} {ta : TA} {fa : M (List D)} {p pos : Pos} (hg : Gl X "range") (hm : X.mg "range" = none) (ha : SA X cf W c [a, b, b2] ta fa) (hs : starEach [a, b, b2] X.env = (false, eval a X.env) :: starEach [b, b2] X.env := by rfl) (hpl : (backTo pos (starEach [b, b2] X.env)).any (·.1) = false := by rfl) : SI X cf W tg (.Call (.Name "range" p) [a, b, b2] [] pos) (iRng3 ta) (iN gR3 fa) := by
  obtain ⟨q, s⟩ := ha
  refine ⟨pi_range3 hg hm q hs hpl, SdI.mk (fun R Hs env σ H F wf r ds env' q Rk k => ?_) (fun R Hs env σ H F wf r x env' q Rk k => ?_)⟩
  · obtain ⟨d1, env1, q1, q⟩ := bnd_ok q
    obtain ⟨qg, rfl⟩ := lift_ok q
    unfold gR3 at qg
    split at qg
    · split at qg
      · rename_i hb
        cases qg
        rw [Bool.and_eq_true, Bool.and_eq_true, decide_eq_true_iff] at hb
        obtain ⟨⟨h1, h2⟩, rfl⟩ := hb
        refine s.ok r q1 fun v Hs1 H1 s1 r1 p1 => ?_
        obtain ⟨w, w2, w3, rfl, hw, hw2, hw3⟩ := p1.three
        exact ⟨_, _, _, _, by rw [hw.int_inv, hw2.int_inv, hw3.int_inv], RgC.neg (smallI_of h1).1 (smallI_of h1).2 (smallI_of h2).1 (smallI_of h2).2, k _ Hs1 H1 s1 r1 itc_ok⟩
      · cases qg
    · cases qg
  · rcases bnd_ex q with q | ⟨d1, env1, q1, q⟩
    · exact s.exn r q k
    · exact (lift_ex q).elim
end
@[simp] theorem gR3_i {i j : Int} : gR3 [.int i, .int j, .int (-1)] = if smallI i && smallI j then some (rngC i (-1) (i - j).toNat) else none := by
  unfold gR3; simp
def keyD : D → Option Key
  | .int i => some (.inl i)
  | .str x => some (.inr x)
  | _ => none
def keysD : List D → Option (List Key)
  | [] => some []
  | d :: r => match keyD d, keysD r with
    | some k, some ks => some (k :: ks)
    | _, _ => none
def dval {κ : Type} [DecidableEq κ] (kvs : List (κ × D)) (k : κ) : Option D := (kvs.find? fun kv => decide (kv.1 = k)).map (·.2)
def dput {κ : Type} [DecidableEq κ] (kvs : List (κ × D)) (k : κ) (d : D) : List (κ × D) :=
  if (kvs.any fun kv => decide (kv.1 = k)) = true then kvs.map (fun kv => if kv.1 = k then (kv.1, d) else kv) else kvs ++ [(k, d)]
def dLook : D → D → Option (Option D)
  | .dic kvs, y => (keyD y).map fun k => dval kvs k
  | .dit kvs, .tup ks => (keysD ks).map fun k => dval kvs k
  | _, _ => none
def isDic : D → Option Unit
  | .dic _ => some ()
  | .dit _ => some ()
  | _ => none
section
variable {κ : Type} [DecidableEq κ] {K : PySem.W.Frag} {x : Bool} {G : Hp}
end
def gDNewK : List D → Option D := fun _ => some (.dic [])
def gDNewT : List D → Option D := fun _ => some (.dit [])
def eDGet1 (fo fk : M D) : M D := bnd fo fun d => bnd (lift (isDic d)) fun _ => bnd fk fun k => lift ((dLook d k).map fun o => o.getD .non)
def eDGet2 (fo fk fx : M D) : M D := bnd fo fun d => bnd (lift (isDic d)) fun _ => bnd fk fun k => bnd fx fun x => lift ((dLook d k).map fun o => o.getD x)
section
variable {X : Cx} {cf : Cf} {W : WX} {c : Cls} {n n1 n2 n3 : Bool}
def dok : D → Bool
  | .dic [] => true
  | .dit [] => true
  | _ => false
def sSetD (i : Nat) (f : M D) : M Fl := bnd f fun d => bnd (lift (if dok d then some d else none)) fun d => fun e => .ok .nx (e.set i (some d))
end
end MV
namespace MV
open PySem PySem.Spec PyProof.Rows L2
def dPut : D → D → D → Option D
  | .dic kvs, y, v => match keyD y with
    | some k => if kvs.length < LIM then some (.dic (dput kvs k v)) else none
    | none => none
  | .dit kvs, .tup ks, v => match keysD ks with
    | some k => if kvs.length < LIM then some (.dit (dput kvs k v)) else none
    | none => none
  | _, _, _ => none
def dicAt (i : Nat) (e : PEnv) : Option D := match e[i]? with
  | some (some d) => if (isDic d).isSome then some d else none
  | _ => none
def sDP (i : Nat) (fv fk : M D) : M Fl := bnd fv fun d => fun e => match dicAt i e with
  | none => .stuck
  | some _ => bnd fk (fun k => fun e => match dicAt i e with
    | some m => match dPut m k d with
      | some m' => .ok .nx (e.set i (some m'))
      | none => .stuck
    | none => .stuck) e
section
variable {X : Cx} {cf : Cf} {W : WX} {c : Cls} {n n1 n2 n3 : Bool}
def gTup1 : List D → Option D
  | [.lst ds] => some (.tup ds)
  | _ => none
end
section
variable {e : PEnv} {fo fk fx fv : M D} {i : Nat} {ds : List D} {kvs : List (Key × D)} {kts : List (List Key × D)}
@[simp] theorem r_eDGet1 : eDGet1 fo fk e = rb (fo e) fun d e => ro (isDic d) fun _ => rb (fk e) fun k e => lift ((dLook d k).map fun o => o.getD .non) e := by
  show rb (fo e) _ = _
  congr 1; funext d e
  show rb (lift (isDic d) e) _ = _
  cases isDic d <;> rfl
@[simp] theorem r_eDGet2 : eDGet2 fo fk fx e = rb (fo e) fun d e => ro (isDic d) fun _ => rb (fk e) fun k e => rb (fx e) fun x e => lift ((dLook d k).map fun o => o.getD x) e := by
  show rb (fo e) _ = _
  congr 1; funext d e
  show rb (lift (isDic d) e) _ = _
  cases isDic d <;> rfl
@[simp] theorem r_sSetD : sSetD i fv e = rb (fv e) fun d e => if dok d then .ok .nx (e.set i (some d)) else .stuck := by
  show rb (fv e) _ = _
  congr 1; funext d e; cases h : dok d <;> simp [h]
def dicO (o : Option (Option D)) : Option D := match o with
  | some (some d) => if (isDic d).isSome then some d else none
  | _ => none
@[simp] theorem dicO_k : dicO (some (some (.dic kvs))) = some (.dic kvs) := (rfl)
@[simp] theorem dicO_t : dicO (some (some (.dit kts))) = some (.dit kts) := (rfl)
@[simp] theorem r_sDP : sDP i fv fk e = rb (fv e) fun d e => ro (dicO (e[i]?)) fun _ => rb (fk e) fun k e => ro (dicO (e[i]?)) fun m => ro (dPut m k d) fun m' => .ok .nx (e.set i (some m')) := by
  show rb (fv e) _ = _
  congr 1; funext d e
  show _ = ro (dicAt i e) _
  cases dicAt i e with
  | none => rfl
  | some m =>
    show rb (fk e) _ = _
    simp only [ro_some]
    congr 1; funext k e
    show _ = ro (dicAt i e) _
    cases dicAt i e with
    | none => rfl
    | some m => simp only [ro_some]; cases dPut m k d <;> rfl
@[simp] theorem isDic_k : isDic (.dic kvs) = some () := (rfl)
@[simp] theorem isDic_t : isDic (.dit kts) = some () := (rfl)
@[simp] theorem gDNewK_v : gDNewK ds = some (.dic []) := (rfl)
@[simp] theorem gDNewT_v : gDNewT ds = some (.dit []) := (rfl)
@[simp] theorem dok_k : dok (.dic []) = true := (rfl)
@[simp] theorem dok_t : dok (.dit []) = true := (rfl)
@[simp] theorem gTup1_l : gTup1 [.lst ds] = some (.tup ds) := (rfl)
@[simp] theorem keyD_i {j : Int} : keyD (.int j) = some (.inl j) := (rfl)
@[simp] theorem keyD_s {x : Str} : keyD (.str x) = some (.inr x) := (rfl)
@[simp] theorem dLook_k {y : D} : dLook (.dic kvs) y = (keyD y).map fun k => dval kvs k := (rfl)
@[simp] theorem dLook_t : dLook (.dit kts) (.tup ds) = (keysD ds).map fun k => dval kts k := (rfl)
@[simp] theorem gSortSet_l : gSortSet [.lst ds] = match asInts ds with | some ns => if ns.length ≤ 4000 then some (.lst ((dsI ns).map .int)) else none | none => none := (rfl)
@[simp] theorem gSorted_l : gSorted [.lst ds] = (asInts ds).map fun ns => .lst ((srtI ns).map .int) := (rfl)
@[simp] theorem gSorted_k : gSorted [.dic kvs] = (keysI kvs).map fun ns => .lst ((srtI ns).map .int) := (rfl)
end
end MV
namespace MV
open PySem PySem.Spec PyProof.Rows L2
def eChain (g g' : D → D → Option D) (fa fb fc : M D) : M D := bnd fa fun x => bnd fb fun y => bnd (lift (g x y)) fun z => bnd (lift (asB z)) fun k => if k then bnd fc fun w => lift (g' y w) else ret (.bl false)
section
variable {X : Cx} {cf : Cf} {W : WX} {ca cb cc : Cls} {n1 n2 n3 : Bool} {a b c : Expr} {ta tb tc : TE} {fa fb fc : M D} {pos : Pos} {g g' : Int → Int → Bool}
end
section
variable {e : PEnv} {fa fb fc : M D} {g g' : D → D → Option D}
@[simp] theorem r_eChain : eChain g g' fa fb fc e = rb (fa e) fun x e => rb (fb e) fun y e => rb (lift (g x y) e) fun z e => rb (lift (asB z) e) fun k e => if k then rb (fc e) fun w e => lift (g' y w) e else .ok (.bl false) e := by
  show rb (fa e) _ = _
  congr 1; funext x e
  show rb (fb e) _ = _
  congr 1; funext y e
  show rb _ _ = _
  congr 1; funext z e
  show rb _ _ = _
  congr 1; funext k e; cases k <;> rfl
end
end MV
namespace MV
open PySem PySem.Spec PyProof.Rows L2
section
variable {X : Cx} {cf : Cf} {W : WX} {c : Cls} {n n1 n2 : Bool}
def sSetML (i : Nat) (fa : M (List D)) : M Fl := bnd fa fun ds => fun e => if ds.length ≤ LIM then .ok .nx (e.set i (some (.lst ds))) else .stuck
def sSetMC (i : Nat) (fa : M (List D)) : M Fl := fun e => match lstAt i e with
  | none => .stuck
  | some _ => bnd fa (fun ds => fun e => match lstAt i e with
    | some ds0 => if ds0.length + ds.length ≤ LIM then .ok .nx (e.set i (some (.lst (ds0 ++ ds)))) else .stuck
    | none => .stuck) e
theorem SdA.bind {ta : TA} {fa : M (List D)} {g : List D → M Fl} {R : Rs} {Hs : Hp} {env : PEnv} {σ : L2.St} {H : Hp} {F : Nat → List Addr} {wf : List Addr} {D : Ends} {Q : List V → Hp → Prop} (s : SdA cf W c ta fa) (r : Rel cf R Hs env σ H F wf) (hp : Post cf W R Hs D (bnd fa g env))
    (hx : ∀ x σ' H', W x none σ' H' → W x none σ' H')
    (k : ∀ ds env1 vs Hs1 H1, Stp cf wf env Hs H env1 Hs1 H1 → Rel cf R Hs1 env1 σ H1 F wf → RpL cf.K true (rg c R.H0 Hs1 H H1 wf) vs ds → Post cf W R Hs D (g ds env1) → Q vs H1) : ta σ H Q := by
  cases q : fa env with
  | ok ds env1 => exact s.ok r q fun vs Hs1 H1 s1 r1 p1 => k ds env1 vs Hs1 H1 s1 r1 p1 (by rw [bnd_of_ok q] at hp; exact hp)
  | ex x env1 => exact s.exn r q fun Hs1 H1 s1 r1 => by rw [bnd_of_ex q] at hp; exact hp Hs1 σ H1 F wf s1.ex r1
  | stuck => rw [bnd_of_stuck q] at hp; exact hp.elim
theorem fin_ML {R : Rs} {Hs1 H1 H2 : Hp} {env1 : PEnv} {σ : L2.St} {F : Nat → List Addr} {wf : List Addr} {i : Nat} {p : Addr} {vs : List V} {ds : List D} (hk : cf.kd i = .M) (r1 : Rel cf R Hs1 env1 σ H1 F wf) (x2 : Ex H1 H2) (np : H1 p = none) (h2 : H2 p = some (.lst vs)) (p1 : RpL cf.K true (rs Hs1 R.H0) vs ds) :
    ∃ Hs3 F3, Ex Hs1 Hs3 ∧ Rel cf R Hs3 (env1.set i (some (.lst ds))) (σ.set i (some (.ref p))) H2 F3 wf := by
  obtain ⟨r2, e2⟩ := r1.own (Stp.grow r1.exs x2) (r1.grow x2) (i := i) (v := .ref p) (d := .lst ds) (Fn := [p]) (wf' := wf) (fun hh e => by
          cases z : R.io with
          | none => exact hh z
          | some q =>
            obtain ⟨_, _, h3, _⟩ := r1.ior q z
            rw [← e, hk] at h3; cases h3) (by simp)
        (fun b m => by
          rw [List.mem_singleton.mp m]
          exact ⟨np, by rw [h2]; exact fun z => by cases z⟩)
        (fun b => ⟨.inl, fun z => z.elim id fun z => by rw [hk] at z; cases z.1⟩)
        (by
          rw [hk]
          refine ⟨Own.lst h2 (ownL_of (p1.mono fun a o ha => ?_)), fun z => (by cases z), Nat.le_refl _⟩
          have h0 : R.H0 a = none := by
            cases z : R.H0 a with
            | none => rfl
            | some u => rw [rs_some z] at ha; cases ha
          rw [rs_none h0] at ha ⊢
          have na : a ≠ p := fun e => by subst e; rw [r1.exs a o ha] at np; cases np
          unfold rm
          rw [if_neg (fun m => na (List.mem_singleton.mp m)), grow_some (r1.exs a o ha)]
          exact ha)
  exact ⟨_, _, e2, r2⟩
end
section
variable {P : Program} {w : World} {K : PySem.W.Frag} {mg : Str → Option Value} {base : Heap}
end
section
variable {e : PEnv} {i : Nat} {r : M (List D)}
@[simp] theorem r_sSetML : sSetML i r e = rb (r e) fun ds e => if ds.length ≤ LIM then .ok .nx (e.set i (some (.lst ds))) else .stuck := (rfl)
@[simp] theorem r_sSetMC : sSetMC i r e = ro (lstO (e[i]?)) fun _ => rb (r e) fun ds e => ro (lstO (e[i]?)) fun ds0 => if ds0.length + ds.length ≤ LIM then .ok .nx (e.set i (some (.lst (ds0 ++ ds)))) else .stuck := by
  unfold sSetMC
  show _ = ro (lstAt i e) _
  cases lstAt i e with
  | none => rfl
  | some ds =>
    show rb (r e) _ = _
    simp only [ro_some]
    congr 1; funext d e
    show _ = ro (lstAt i e) _
    cases lstAt i e <;> rfl
end
end MV
namespace MV
open PySem L2
open PySem.W (alike alikeAll dataLt minD AlikeAll AllAlike Sortable dataLe EachIs)
def D.P (d : D) : PyData := d.toP.getD .none
mutual
theorem toP_inj : ∀ {a b : D} {p : PyData}, a.toP = some p → b.toP = some p → a = b
  | .non, b, p, h, h2 => by cases h; cases b <;> first | rfl | (simp [D.toP] at h2)
  | .bl x, b, p, h, h2 => by cases h; cases b <;> first | (simp [D.toP] at h2; subst h2; rfl) | (simp [D.toP] at h2)
  | .int x, b, p, h, h2 => by cases h; cases b <;> first | (simp [D.toP] at h2; subst h2; rfl) | (simp [D.toP] at h2)
  | .str x, b, p, h, h2 => by cases h; cases b <;> first | (simp [D.toP] at h2; subst h2; rfl) | (simp [D.toP] at h2)
  | .lst xs, b, p, h, h2 => by
    rw [D.toP, Option.map_eq_some_iff] at h
    obtain ⟨ps, h, rfl⟩ := h
    cases b with
    | lst ys =>
      rw [D.toP, Option.map_eq_some_iff] at h2
      obtain ⟨qs, h2, e⟩ := h2
      cases e
      rw [toPs_inj h h2]
    | _ => simp [D.toP] at h2
  | .tup xs, b, p, h, h2 => by
    rw [D.toP, Option.map_eq_some_iff] at h
    obtain ⟨ps, h, rfl⟩ := h
    cases b with
    | tup ys =>
      rw [D.toP, Option.map_eq_some_iff] at h2
      obtain ⟨qs, h2, e⟩ := h2
      cases e
      rw [toPs_inj h h2]
    | _ => simp [D.toP] at h2
  | .dic _, b, p, h, h2 => by cases h
  | .dit _, b, p, h, h2 => by cases h
  | .exc _, b, p, h, h2 => by cases h
theorem toPs_inj : ∀ {a b : List D} {p : List PyData}, toPs a = some p → toPs b = some p → a = b
  | [], b, p, h, h2 => by
    cases h
    cases b with
    | nil => rfl
    | cons y ys => rw [toPs] at h2; split at h2 <;> cases h2
  | x :: xs, b, p, h, h2 => by
    rw [toPs] at h
    split at h
    · rename_i p1 p2 e1 e2
      cases h
      cases b with
      | nil => cases h2
      | cons y ys =>
        rw [toPs] at h2
        split at h2
        · rename_i q1 q2 f1 f2
          cases h2
          rw [toP_inj e1 f1, toPs_inj e2 f2]
        · cases h2
    · cases h
end
theorem P_of {d : D} {p : PyData} (h : d.toP = some p) : d.P = p := by unfold D.P; rw [h]; rfl
theorem toPs_all : ∀ {l : List D}, (∀ d ∈ l, d.toP.isSome = true) → toPs l = some (l.map D.P)
  | [], _ => rfl
  | d :: l, h => by
    have h1 := h d List.mem_cons_self
    rw [toPs, toPs_all fun x m => h x (List.mem_cons_of_mem _ m)]
    cases q : d.toP with
    | none => rw [q] at h1; cases h1
    | some p => rw [List.map_cons, P_of q]
def okO (l : List D) : Bool := l.all fun a => a.toP.isSome && decide (a.P.depth ≤ 60) && (match a with | .non => false | _ => true) && l.all fun b => alike a.P b.P
theorem okO_some {l : List D} (h : okO l = true) : ∀ d ∈ l, d.toP.isSome = true := fun d m => by
  have := List.all_eq_true.mp h d m
  rw [Bool.and_eq_true, Bool.and_eq_true, Bool.and_eq_true] at this
  exact this.1.1.1
theorem okO_alike {l : List D} (h : okO l = true) : AlikeAll (l.map D.P) := by
  constructor
  · intro x hx y hy
    obtain ⟨a, ha, rfl⟩ := List.mem_map.mp hx
    obtain ⟨b, hb, rfl⟩ := List.mem_map.mp hy
    have := List.all_eq_true.mp h a ha
    rw [Bool.and_eq_true] at this
    exact List.all_eq_true.mp this.2 b hb
  · intro x hx e
    obtain ⟨a, ha, rfl⟩ := List.mem_map.mp hx
    have := List.all_eq_true.mp h a ha
    rw [Bool.and_eq_true, Bool.and_eq_true, Bool.and_eq_true] at this
    obtain ⟨⟨⟨s, _⟩, n⟩, _⟩ := this
    cases q : a.toP with
    | none => rw [q] at s; cases s
    | some p =>
      rw [P_of q] at e
      subst e
      have := toP_inj (b := .non) q rfl
      subst this
      cases n
theorem depth_le : ∀ (l : List D), (∀ a ∈ l, a.P.depth ≤ 60) → PyData.depthAll (l.map D.P) ≤ 60
  | [], _ => by simp [PyData.depthAll]
  | a :: l, h => by
    rw [List.map_cons, PyData.depthAll]
    have := h a List.mem_cons_self
    have := depth_le l fun x m => h x (List.mem_cons_of_mem _ m)
    omega
theorem okO_depth {l : List D} (h : okO l = true) : PyData.depthAll (l.map D.P) ≤ 60 := depth_le l fun a ha => by
  have := List.all_eq_true.mp h a ha
  rw [Bool.and_eq_true, Bool.and_eq_true, Bool.and_eq_true] at this
  exact of_decide_eq_true this.1.1.2
def ltD (a b : D) : Bool := dataLt a.P b.P
section
variable {X : Cx} {cf : Cf} {W : WX} {c ca cb : Cls} {n n1 n2 : Bool} {a b : Expr} {ta tb : TE} {fa fb : M D} {pos : Pos}
end
def mnD (d : D) (ds : List D) : D := ds.foldl (fun a y => if ltD y a then y else a) d
def gMinD : List D → Option D
  | [.lst (d :: ds)] => if okO (d :: ds) then some (mnD d ds) else none
  | _ => none
def gMinX : List D → Option D
  | [.lst []] => some .non
  | x => gMinD x
theorem mnD_mem (d : D) : ∀ (ds : List D), mnD d ds ∈ d :: ds := by
  intro ds
  unfold mnD
  induction ds generalizing d with
  | nil => exact List.mem_cons_self
  | cons y ds ih =>
    rw [List.foldl_cons]
    have := ih (if ltD y d then y else d)
    rcases List.mem_cons.mp this with h | h
    · rw [h]; split
      · exact List.mem_cons_of_mem _ List.mem_cons_self
      · exact List.mem_cons_self
    · exact List.mem_cons_of_mem _ (List.mem_cons_of_mem _ h)
theorem mnD_P (d : D) (ds : List D) : (mnD d ds).P = minD d.P (ds.map D.P) := by
  unfold mnD minD
  induction ds generalizing d with
  | nil => rfl
  | cons y ds ih =>
    rw [List.foldl_cons, List.map_cons, List.foldl_cons, ih]
    congr 1
    unfold ltD
    split <;> rfl
def rMinD (K : PySem.W.Frag) : List V → Hp → VK → Prop := fun vs H Q => ∃ (a : Addr) (xs : List V) (p : PyData) (ps : List PyData), vs = [.ref a] ∧ SqL K H a xs ∧ DpAll K H xs (p :: ps) ∧ AlikeAll (p :: ps) ∧ PyData.depthAll (p :: ps) ≤ 60 ∧ minD p ps ∈ p :: ps ∧ ∀ (i : Nat) (x : V), xs[i]? = some x → (p :: ps)[i]? = some (minD p ps) → Q x H
theorem vals_at {xs : List V} {us : List Value} (h : Vals xs us) : ∀ {i : Nat} {v : Value}, us[i]? = some v → ∃ x, xs[i]? = some x ∧ RelV x v := by
  induction h with
  | nil => intro i v e; simp at e
  | cons hr _ ih =>
    intro i v e
    cases i with
    | zero => exact ⟨_, rfl, by simp at e; subst e; exact hr⟩
    | succ i => exact ih e
theorem min_is {h h' : Heap} {us : List Value} {p : PyData} {ps : List PyData} {as bs : List Addr} {i : Nat} {v : Value} (hr : ReadsAll h us (p :: ps) as) (al : AlikeAll (p :: ps)) (hm : minD p ps ∈ p :: ps) (hv : us[i]? = some v) (hi : i < (p :: ps).length) (hk : ∀ b o, h.get? b = some o → h'.get? b = some o) (r : Reads h' v (minD p ps) bs) : (p :: ps)[i]? = some (minD p ps) := by
  obtain ⟨bs2, r2, _⟩ := PySem.W.readsAll_at hr i v hv
  have r2 := PyProof.Rows.Reads.keeps hk r2
  rw [List.getD_eq_getElem?_getD, List.getElem?_eq_getElem hi] at r2
  rw [List.getElem?_eq_getElem hi]
  exact congrArg some (PySem.W.alike_unique _ _ v _ _ (al.1 _ (List.getElem_mem hi) _ hm) r2 r)
theorem readsAll_lenL {h : Heap} : ∀ {vs : List Value} {xs : List PyData} {as : List Addr}, ReadsAll h vs xs as → vs.length = xs.length
  | _, _, _, .nil => rfl
  | _, _, _, .cons _ r => by rw [List.length_cons, List.length_cons, readsAll_lenL r]
theorem cr_minD {X : Cx} (hc : X.calm = true) (hu : X.A.units + 64 < cLine) : CallR X (.builtin "min") (rMinD X.K) := by
  intro pins s σ H vs us Q I r h
  obtain ⟨a, xs, p, ps, rfl, hs, hd, al, dp, hm, q⟩ := h
  obtain ⟨its, rv, hl, _⟩ := I.list hs
  rw [Vals.ref1 r]
  obtain ⟨as, hr⟩ := Dp.readsAll I _ _ _ hd rv
  refine PySem.W.min_list_data (I.ok.hd hc) hl.isList (by simpa using hr) al (by omega) fun i v h' tk bs hv rr hk => ?_
  have hv : its[i]? = some v := by simpa using hv
  obtain ⟨x, hx, rx⟩ := vals_at rv hv
  have hi : i < (p :: ps).length := by
    rw [← readsAll_lenL hr]; exact (List.getElem?_eq_some_iff.mp hv).1
  exact ⟨x, H, I.kept hk, rx, q i x hx (min_is hr al hm hv hi hk rr)⟩
theorem snd_minD0 {K : PySem.W.Frag} {G H : Hp} {xs : List V} {ds : List D} {d : D} (e : Ex G H) (h : RpL K true G xs ds) (q : gMinD ds = some d) (Q : VK) (k : ∀ v, Rp K true G v d → Q v H) : rMinD K xs H Q := by
  unfold gMinD at q
  split at q
  · rename_i d0 ds0
    split at q
    · rename_i ok
      cases q
      obtain ⟨v, rfl, hv⟩ := h.one
      obtain ⟨a, ys, rfl, s1, r1⟩ := hv.lst_inv
      have s1 : G a = some (.lst ys) := s1
      have tp := toPs_all (okO_some ok)
      have dp := r1.dp e tp
      have mm := mnD_mem d0 ds0
      have mp : minD d0.P (ds0.map D.P) ∈ (d0 :: ds0).map D.P := by rw [← mnD_P]; exact List.mem_map.mpr ⟨_, mm, rfl⟩
      refine ⟨a, ys, d0.P, ds0.map D.P, rfl, .inl (.inl (e _ _ s1)), dp, okO_alike ok, okO_depth ok, mp, fun i x hx hp => ?_⟩
      obtain ⟨dd, hd, rr⟩ := r1.getV hx
      have hp : ((d0 :: ds0).map D.P)[i]? = some (minD d0.P (ds0.map D.P)) := hp
      rw [List.getElem?_map, hd, ← mnD_P] at hp
      have hp : dd.P = (mnD d0 ds0).P := Option.some.inj hp
      obtain ⟨p1, e1⟩ := Option.isSome_iff_exists.mp (okO_some ok dd (List.mem_of_getElem? hd))
      obtain ⟨p2, e2⟩ := Option.isSome_iff_exists.mp (okO_some ok _ mm)
      rw [P_of e1, P_of e2] at hp
      subst hp
      exact k x (by rw [← toP_inj e1 e2]; exact rr)
    · cases q
  · cases q
theorem grow_self {G H : Hp} (e : Ex G H) : Ex G (grow G H H) := Ex.grow e (Ex.refl H)
theorem snd_minD {K : PySem.W.Frag} : SndN K false (rMinD K) gMinD := fun G H xs ds d e h q Q k => snd_minD0 e h q Q fun v r => k v H (Ex.refl H) (r.mono (grow_self e)) fun z => by cases z
section
variable {X : Cx} {cf : Cf} {W : WX} {c ca cb : Cls} {n n1 n2 : Bool} {e : Expr} {es : List Expr} {tA : TA} {fA : M (List D)} {p pos kpos npos : Pos} {j : Nat}
theorem se_minD (hK : cf.K = X.K) (hc : X.calm = true) (hu : X.A.units + 64 < cLine) (hm : X.mg "min" = none) (ha : SA X cf W c (e :: es) tA fA) (hg : Gl X "min" := by rfl) (he : starEach (e :: es) X.env = (false, eval e X.env) :: starEach es X.env := by rfl) (hpl : (backTo pos (starEach es X.env)).any (·.1) = false := by rfl) :
    SE X cf W c false (.Call (.Name "min" p) (e :: es) [] pos) (tCB (rMinD cf.K) tA) (eN gMinD fA) := se_cb (hK ▸ cr_minD hc hu) snd_minD hg hm rfl ha (by decide) (by decide) he hpl
end
end MV
namespace MV
open PySem PySem.Spec PyProof.Rows L2
section
variable {X : Cx} {cf : Cf} {W : WX} {c : Cls} {n n1 n2 : Bool}
structure ItOkN (K : PySem.W.Frag) (H0 : Hp) (J : It) (G1 Hs1 : Hp) (ds : List D) : Prop where
  go : ∀ i H, i < ds.length → Ex G1 H → J.go i H
  stop : ∀ H, Ex G1 H → J.stop ds.length H
  yld : ∀ i H x H', Ex G1 H → i < ds.length → J.yld i H x H' → Ex H H' ∧ ∀ G, Ex Hs1 G → Ex G H → ∃ d, ds[i]? = some d ∧ Rp K true (rs G H0) x d
def SdIN (cf : Cf) (W : WX) (wi : TI) (fi : M (List D)) : Prop :=
  ∀ (R : Rs) (Hs : Hp) (env : PEnv) (σ : L2.St) (H : Hp) (F : Nat → List Addr) (wf : List Addr), Rel cf R Hs env σ H F wf → ∀ Rk : It → Hp → Prop,
    match fi env with
    | .ok ds env' => (∀ J G1 Hs' H', Stp cf wf env Hs H env' Hs' H' → Rel cf R Hs' env' σ H' F wf → Ex G1 (rm H' wf) → ItOkN cf.K R.H0 J G1 Hs' ds → Rk J H') → wi σ H Rk
    | .ex x env' => (∀ Hs' H', Stp cf wf env Hs H env' Hs' H' → Rel cf R Hs' env' σ H' F wf → W (cf.cv x) none σ H') → wi σ H Rk
    | .stuck => True
structure SIN (X : Cx) (cf : Cf) (W : WX) (tg iter : Expr) (wi : TI) (fi : M (List D)) : Prop where
  p : PI X tg iter wi
  s : SdIN cf W wi fi
def SdGN (cf : Cf) (is : List Nat) (g : TG) (tg : D → M Unit) : Prop :=
  ∀ (R : Rs) (Hs : Hp) (env : PEnv) (σ : L2.St) (H : Hp) (F : Nat → List Addr) (wf : List Addr), Rel cf R Hs env σ H F wf → ∀ (d : D) (v : V), Rp cf.K true (rs Hs R.H0) v d → ∀ Q : L2.St → Hp → Prop,
    match tg d env with
    | .ok _ env' => (∀ σ', Rel cf R Hs env' σ' H F wf → wipe σ' is = wipe σ is → (∀ j, j ∉ is → env'[j]? = env[j]?) → Q σ' H) → g v σ H Q
    | .ex _ _ => False
    | .stuck => True
structure SGtN (X : Cx) (cf : Cf) (is : List Nat) (tg : Expr) (g : TG) (f : D → M Unit) : Prop where
  p : PG X tg g
  s : SdGN cf is g f
theorem sgt_nameN {i : Nat} {x : Str} {pos : Pos} {is : List Nat} (hm : i ∈ is) (hk : cf.kd i = .N) (hN : X.N.Nodup) (hi : X.N[i]? = some x) (hx : Loc X.env.scope x) (hf : X.fn x = true ∨ X.env.scope.names.lookup x = some .local := by first | exact .inl rfl | exact .inr rfl | assumption) : SGtN X cf is (.Name x pos) (gName i) (tgN i) :=
  ⟨pg_name hN hi hx hf, fun R Hs env σ H F wf r d v p Q k => k _ (r.put (by rw [hk]; exact fun z => by cases z) fun F' => by rw [hk]; exact p) (wipe_set σ i _ is hm) fun j hj => List.getElem?_set_ne (fun e => hj (by rw [← e]; exact hm))⟩
theorem si_listN {i : Nat} {tg e : Expr} (hK : cf.K = X.K) (p : PE X e (tVar i)) (hk : cf.kd i = .M) : SIN X cf W tg e (iList cf.K (tVar i)) (iL (eV i)) := by
  rw [hK]
  refine ⟨pi_list p, fun R Hs env σ H F wf r Rk => ?_⟩
  cases q : iL (eV i) env with
  | stuck => trivial
  | ex x env' =>
    rcases bnd_ex q with q | ⟨d1, env1, q1, q⟩
    · exact (eV_ex q).elim
    · exact (lift_ex q).elim
  | ok ds env' =>
    obtain ⟨d1, env1, q1, q⟩ := bnd_ok q
    obtain ⟨qg, rfl⟩ := lift_ok q
    obtain ⟨q1, rfl⟩ := eV_ok q1
    rw [asL_some qg] at q1
    intro k
    obtain ⟨a, xs, h1, h2, h3, h4⟩ := own_list r hk q1
    have hw : a ∉ wf := r.volb i (by rw [hk]; exact fun z => by cases z) a (by rw [h2]; exact List.mem_singleton.mpr rfl)
    have hG : rm H wf a = some (.lst xs) := by unfold rm; rw [if_neg hw]; exact h3
    refine ⟨.ref a, h1, a, rfl, ⟨xs, .inl (.inl h3)⟩, k _ (rm H wf) Hs H Stp.refl r (Ex.refl _) ?_⟩
    have hl := h4.length
    rw [← hK]
    refine ⟨fun i H hi e => ⟨xs, xs[i]'(by omega), .inl (.inl (e _ _ hG)), by simp⟩, fun H e => ⟨xs, .inl (.inl (e _ _ hG)), by omega⟩, fun i H x H' e hi y => ?_⟩
    obtain ⟨rfl, y⟩ := y
    refine ⟨Ex.refl _, fun G x1 _ => ?_⟩
    obtain ⟨d, hd, hr⟩ := h4.getV (y xs (.inl (.inl (e _ _ hG))))
    exact ⟨d, hd, hr.mono (rs_mono x1)⟩
theorem Rel.wipeN {R : Rs} {Hs : Hp} {env : PEnv} {σ σ' : L2.St} {H : Hp} {F : Nat → List Addr} {wf : List Addr} {is : List Nat} (r : Rel cf R Hs env σ H F wf) (hk : ∀ i ∈ is, cf.kd i = .N) (hw : L2.wipe σ is = L2.wipe σ' is) : Rel cf R Hs (wipeE is env) (L2.wipe σ' is) H F wf where
  len := by rw [wipeE_len, ← hw, wipe_length]; exact r.len
  exs := r.exs
  ex0 := r.ex0
  dom0 := r.dom0
  slot := fun j d h => by
    obtain ⟨h1, h2⟩ := wipeE_get h
    obtain ⟨v, h3, h4⟩ := r.slot j d h1
    exact ⟨v, by rw [← hw, wipe_out h2]; exact h3, h4⟩
  nod := r.nod
  dis := r.dis
  fdom := r.fdom
  uns := r.uns
  new := r.new
  volw := r.volw
  volb := r.volb
  wdom := r.wdom
  ior := fun p h => by
    obtain ⟨h1, h2, h3, d, h4⟩ := r.ior p h
    have n0 : 0 ∉ is := fun m => by rw [hk 0 m] at h3; cases h3
    exact ⟨by rw [← hw, wipe_out n0]; exact h1, h2, h3, d, by rw [wipeE_out n0]; exact h4⟩
theorem Rel.restN {R : Rs} {Hs0 Hs : Hp} {env0 env : PEnv} {σ : L2.St} {H0 H : Hp} {F : Nat → List Addr} {wf : List Addr} {is : List Nat} (r0 : Rel cf R Hs0 env0 σ H0 F wf) (r : Rel cf R Hs env (L2.wipe σ is) H F wf) (ex : Ex Hs0 Hs) (hk : ∀ i ∈ is, cf.kd i = .N) : Rel cf R Hs (restE is env0 env) σ H F wf where
  len := by rw [restE_len]; have := r.len; rw [wipe_length] at this; exact this
  exs := r.exs
  ex0 := r.ex0
  dom0 := r.dom0
  slot := fun j d h => by
    by_cases m : j ∈ is
    · rw [restE_in m (by have := r.len; rw [wipe_length] at this; rw [this, r0.len])] at h
      obtain ⟨v, h1, h2⟩ := r0.slot j d h
      rw [hk j m] at h2 ⊢
      exact ⟨v, h1, Rp.mono (rs_mono ex) h2⟩
    · rw [restE_out m] at h
      obtain ⟨v, h1, h2⟩ := r.slot j d h
      exact ⟨v, (wipe_some h1).1, h2⟩
  nod := r.nod
  dis := r.dis
  fdom := r.fdom
  uns := r.uns
  new := r.new
  volw := r.volw
  volb := r.volb
  wdom := r.wdom
  ior := fun p h => by
    obtain ⟨h1, h2, h3, d, h4⟩ := r.ior p h
    have n0 : 0 ∉ is := fun m => by rw [hk 0 m] at h3; cases h3
    exact ⟨(wipe_some h1).1, h2, h3, d, by rw [restE_out n0]; exact h4⟩
theorem sd_lcN {wi : TI} {g : TG} {tt : TT} {te : TE} {is : List Nat} {fi : M (List D)} {tg : D → M Unit} {ft : M Bool} {fe : M D} (hc : c.sh = true) (hk : ∀ i ∈ is, cf.kd i = .N) (si : SdIN cf W wi fi) (sg : SdGN cf is g tg) (st : SdT cf W0 tt ft) (se : Sd cf W0 c n1 te fe) : Sd cf W c true (tLc wi g tt te is) (eLc is fi tg ft fe) := by
  refine Sd.mk (fun R Hs env σ H F wf r d env' q Q k => ?_) (fun R Hs env σ H F wf r x env' q Q k => ?_)
  · obtain ⟨ds, env1, q1, q⟩ := bnd_ok q
    have h := si R Hs env σ H F wf r
    refine (show ∀ Rk : It → Hp → Prop, (∀ J G1 Hs' H', Stp cf wf env Hs H env1 Hs' H' → Rel cf R Hs' env1 σ H' F wf → Ex G1 (rm H' wf) → ItOkN cf.K R.H0 J G1 Hs' ds → Rk J H') → wi σ H Rk from fun Rk kk => by
      have h := h Rk
      rw [q1] at h
      exact h kk) _ fun J G1 Hs1 H1 s1 r1 hG it => ?_
    intro Dp hD
    cases q2 : lcGo is tg ft fe ds [] (wipeE is env1) with
    | stuck => simp only [q2] at q; cases q
    | ex x e2 => simp only [q2] at q; cases q
    | ok acc e2 =>
    simp only [q2] at q
    cases q
    have rw0 : Rel cf R Hs1 (wipeE is env1) (L2.wipe σ is) H1 F wf := r1.wipeN hk rfl
    have dF : ∀ i, Dp ∉ F i := fun i m => r1.fdom i Dp m hD
    have dW : Dp ∉ wf := fun m => (r1.wdom Dp m).1 hD
    have dS : Hs1 Dp = none := r1.exs.back hD
    have dst : H Dp = none := by
      cases z : H Dp with
      | none => rfl
      | some o => exact absurd hD (s1.dom Dp (by rw [z]; exact fun y => by cases y))
    refine ⟨fun i m H' => ∃ Hs2 env2 accV acc2, i ≤ ds.length ∧ m = ds.length - i ∧ Stp cf wf (wipeE is env1) Hs1 H1 env2 Hs2 H' ∧ Rel cf R Hs2 env2 (L2.wipe σ is) H' F wf ∧ H' Dp = some (.lst accV) ∧ Hs2 Dp = none ∧ RpL cf.K true (rg c R.H0 Hs2 H H1 wf) accV acc2 ∧ lcGo is tg ft fe (ds.drop i) acc2 env2 = .ok acc e2,
      ⟨ds.length, Hs1, wipeE is env1, [], [], Nat.zero_le _, by simp, ⟨fun a h => (Ex.new hD).dom h, Ex.refl _, fun a o _ h => Ex.new hD a o h, fun _ _ => rfl, fun _ _ => rfl⟩, rw0.bump dS dF, upd_same, dS, .nil, by rw [List.drop_zero]; exact q2⟩, ?_⟩
    rintro i m H' ⟨Hs2, env2, accV, acc2, hi, rfl, s2, r2, hD2, hS2, ra, q3⟩
    have e12 : Ex G1 H' := fun a o h => by
      have h := hG a o h
      unfold rm at h
      split at h
      · cases h
      · rename_i hw; exact s2.keep a o hw h
    by_cases hlt : i < ds.length
    · refine .inr ⟨it.go i H' hlt e12, fun H'' => ∃ Hs2 env2 accV acc2, Stp cf wf (wipeE is env1) Hs1 H1 env2 Hs2 H'' ∧ Rel cf R Hs2 env2 (L2.wipe σ is) H'' F wf ∧ H'' Dp = some (.lst accV) ∧ Hs2 Dp = none ∧ RpL cf.K true (rg c R.H0 Hs2 H H1 wf) accV acc2 ∧ lcGo is tg ft fe (ds.drop (i + 1)) acc2 env2 = .ok acc e2, fun H'' hN => ?_, fun x H3 y => ?_⟩
      · obtain ⟨Hs3, env3, accV3, acc3, z⟩ := hN
        exact ⟨ds.length - (i + 1), by omega, Hs3, env3, accV3, acc3, hlt, rfl, z⟩
      · obtain ⟨eg, hy⟩ := it.yld i H' x H3 e12 hlt y
        obtain ⟨d, hd, hr⟩ := hy Hs2 s2.ex r2.exs
        have ed : ds.drop i = d :: ds.drop (i + 1) := by
          rw [List.drop_eq_getElem_cons hlt]
          rw [List.getElem?_eq_getElem hlt] at hd
          cases hd
          rfl
        rw [ed, lcGo] at q3
        obtain ⟨u, env3, qt, q4⟩ := bnd_ok q3
        obtain ⟨b, env4, qb, q5⟩ := bnd_ok q4
        have r3 := r2.grow eg
        have s3 : Stp cf wf env2 Hs2 H' env2 (grow Hs2 H' H3) H3 := Stp.grow r2.exs eg
        have hD3 : H3 Dp = some (.lst accV) := eg _ _ hD2
        have hS3 : grow Hs2 H' H3 Dp = none := by rw [grow_some hD2]; exact hS2
        have hg := sg R _ env2 (L2.wipe σ is) H3 F wf r3 d x (hr.mono (rs_mono (Ex.grow r2.exs eg)))
        refine (show ∀ Q : L2.St → Hp → Prop, (∀ σ', Rel cf R (grow Hs2 H' H3) env3 σ' H3 F wf → L2.wipe σ' is = L2.wipe (L2.wipe σ is) is → (∀ j, j ∉ is → env3[j]? = env2[j]?) → Q σ' H3) → g x (L2.wipe σ is) H3 Q from fun Q kk => by
          have hg := hg Q
          rw [qt] at hg
          exact hg kk) _ fun σ2 r4 w4 kj => ?_
        have ww : L2.wipe (L2.wipe σ is) is = L2.wipe σ is := by
          have : ∀ (js : List Nat), (∀ j ∈ js, j ∈ is) → L2.wipe (L2.wipe σ is) js = L2.wipe σ is := by
            intro js
            induction js with
            | nil => intro _; rfl
            | cons v vs ih =>
              intro hj
              show (L2.wipe (L2.wipe σ is) vs).set v none = L2.wipe σ is
              rw [ih fun j m => hj j (List.mem_cons_of_mem _ m)]
              apply List.ext_getElem?
              intro j
              by_cases e : v = j
              · subst e
                by_cases hl : v < (L2.wipe σ is).length
                · rw [List.getElem?_set_self hl]
                  cases z : (L2.wipe σ is)[v]? with
                  | none => rw [List.getElem?_eq_getElem hl] at z; cases z
                  | some o =>
                    cases o with
                    | none => rfl
                    | some w => exact absurd (hj v List.mem_cons_self) (wipe_some z).2
                · rw [List.getElem?_eq_none (by rw [List.length_set]; omega), List.getElem?_eq_none (by omega)]
              · rw [List.getElem?_set_ne e]
          exact this is fun _ m => m
        rw [ww] at w4
        refine ⟨w4, ?_⟩
        have kp4 : ∀ j, cf.kd j ≠ .W → j ∉ is → env3[j]? = (wipeE is env1)[j]? := fun j hj hn => (kj j hn).trans (s2.kp j hj)
        refine st.ok r4 qb fun Hs5 H5 s5 r5 => ?_
        have hD5 : H5 Dp = some (.lst accV) := s5.keep _ _ dW hD3
        have hS5 : Hs5 Dp = none := by rw [s5.same Dp (by rw [hD3]; exact fun z => by cases z)]; exact hS3
        -- what holds behind a turn
        have fin : ∀ (Hs6 H6 : Hp) (env6 : PEnv) (accV6 : List V) (acc6 : List D), Stp cf wf env4 Hs5 H5 env6 Hs6 H6 → Rel cf R Hs6 env6 σ2 H6 F wf → RpL cf.K true (rg c R.H0 Hs6 H H1 wf) accV6 acc6 → lcGo is tg ft fe (ds.drop (i + 1)) acc6 (wipeE is env6) = .ok acc e2 → ∀ H7, (H7 = H6 ∧ accV6 = accV ∨ H7 = upd H6 Dp (.lst accV6)) →
            ∃ Hs2 env2 accV acc2, Stp cf wf (wipeE is env1) Hs1 H1 env2 Hs2 H7 ∧ Rel cf R Hs2 env2 (L2.wipe σ is) H7 F wf ∧ H7 Dp = some (.lst accV) ∧ Hs2 Dp = none ∧ RpL cf.K true (rg c R.H0 Hs2 H H1 wf) accV acc2 ∧ lcGo is tg ft fe (ds.drop (i + 1)) acc2 env2 = .ok acc e2 := by
          intro Hs6 H6 env6 accV6 acc6 s6 r6 ra6 q6 H7 h7
          have hD6 : H6 Dp = some (.lst accV) := s6.keep _ _ dW hD5
          have hS6 : Hs6 Dp = none := by rw [s6.same Dp (by rw [hD5]; exact fun z => by cases z)]; exact hS5
          have r6w : Rel cf R Hs6 (wipeE is env6) (L2.wipe σ is) H6 F wf := r6.wipeN hk w4
          have kpw : ∀ j, cf.kd j ≠ .W → (wipeE is env6)[j]? = (wipeE is env1)[j]? := fun j hj => by
            by_cases m : j ∈ is
            · have hl : (wipeE is env6).length = (wipeE is env1).length := by rw [r6w.len, rw0.len]
              cases z : (wipeE is env6)[j]? with
              | none => rw [List.getElem?_eq_none_iff] at z; rw [List.getElem?_eq_none (by omega)]
              | some o =>
                cases o with
                | some w => exact absurd m (wipeE_get z).2
                | none =>
                  cases z2 : (wipeE is env1)[j]? with
                  | none => rw [List.getElem?_eq_none_iff] at z2; rw [List.getElem?_eq_none (by omega)] at z; cases z
                  | some o2 =>
                    cases o2 with
                    | some w => exact absurd m (wipeE_get z2).2
                    | none => rfl
            · rw [wipeE_out m, s6.kp j hj, s5.kp j hj, kp4 j hj m]
          have keep6 : ∀ a o, a ∉ wf → H1 a = some o → H6 a = some o := fun a o hw h => s6.keep a o hw (s5.keep a o hw (s3.keep a o hw (s2.keep a o hw h)))
          have dom6 : ∀ a, H1 a ≠ none → H6 a ≠ none := fun a h => s6.dom a (s5.dom a (s3.dom a (s2.dom a h)))
          have ex6 : Ex Hs1 Hs6 := ((s2.ex.trans s3.ex).trans s5.ex).trans s6.ex
          have same6 : ∀ a, H1 a ≠ none → Hs6 a = Hs1 a := fun a h => ((s6.same a (s5.dom a (s3.dom a (s2.dom a h)))).trans (s5.same a (s3.dom a (s2.dom a h)))).trans ((s3.same a (s2.dom a h)).trans (s2.same a h))
          rcases h7 with ⟨rfl, rfl⟩ | rfl
          · exact ⟨Hs6, wipeE is env6, accV6, acc6, ⟨dom6, ex6, keep6, same6, kpw⟩, r6w, hD6, hS6, ra6, q6⟩
          · refine ⟨Hs6, wipeE is env6, accV6, acc6, ⟨fun a h => ?_, ex6, fun a o hw h => ?_, same6, kpw⟩, r6w.bump hS6 dF, upd_same, hS6, ra6, q6⟩
            · have : a ≠ Dp := fun e => by subst e; exact h hD
              rw [upd_ne this]; exact dom6 a h
            · have : a ≠ Dp := fun e => by subst e; rw [hD] at h; cases h
              rw [upd_ne this]; exact keep6 a o hw h
        have ra5 : RpL cf.K true (rg c R.H0 Hs5 H H1 wf) accV acc2 := ra.mono (rg_shm hc (s3.ex.trans s5.ex))
        cases b with
        | false => exact fin Hs5 H5 env4 accV acc2 Stp.refl r5 ra5 q5 H5 (.inl ⟨rfl, rfl⟩)
        | true =>
          obtain ⟨y6, env6, qe, q6⟩ := bnd_ok q5
          obtain ⟨u2, env7, ql, q7⟩ := bnd_ok q6
          obtain ⟨ql, rfl⟩ := lift_ok ql
          split at ql
          · rename_i hl
            refine se.ok r5 qe fun v6 Hs6 H6 s6 r6 p6 _ => ?_
            refine ⟨accV, s6.keep _ _ dW hD5, by rw [ra.length]; exact lim_lt hl, ?_⟩
            have dd : ∀ a, H a ≠ none → H5 a ≠ none := fun a h => s5.dom a (s3.dom a (s2.dom a (s1.dom a h)))
            have p6' : Rp cf.K true (rg c R.H0 Hs6 H H1 wf) v6 y6 := by
              have := p6.mono (rg_start dd)
              rw [rg_sh hc (H' := H1) (wf' := wf)] at this
              exact this
            exact fin Hs6 H6 env7 (accV ++ [v6]) (acc2 ++ [y6]) s6 r6 ((ra5.mono (rg_shm hc s6.ex)).append (.cons p6' .nil)) q7 _ (.inr rfl)
          · cases ql
    · have e : i = ds.length := by omega
      subst e
      rw [List.drop_length, lcGo] at q3
      cases q3
      refine .inl ⟨it.stop H' e12, ?_⟩
      have exn : Ex Hs2 (upd Hs2 Dp (.lst accV)) := Ex.new hS2
      have r6 : Rel cf R (upd Hs2 Dp (.lst accV)) e2 (L2.wipe σ is) H' F wf := r2.share hS2 hD2 dF dW
      have r7 : Rel cf R (upd Hs2 Dp (.lst accV)) (restE is env1 e2) σ H' F wf := Rel.restN r1 r6 (s2.ex.trans exn) hk
      have hroot : rg c R.H0 (upd Hs2 Dp (.lst accV)) H H1 wf Dp = some (.lst accV) := by
        have h0 : R.H0 Dp = none := by
          cases z : R.H0 Dp with
          | none => rfl
          | some o => exact absurd hD (r1.dom0 Dp (by rw [z]; exact fun y => by cases y))
        cases c with
        | V => show rs _ _ Dp = _; rw [rs_none dst, upd_same]
        | N => show rs _ _ Dp = _; rw [rs_none h0, upd_same]
        | S => exact upd_same
        | L => cases hc
        | B => cases hc
      refine k (.ref Dp) (upd Hs2 Dp (.lst accV)) H' ⟨fun a h => s2.dom a (s1.dom a h), (s1.ex.trans s2.ex).trans exn, fun a o hw h => s2.keep a o hw (s1.keep a o hw h), fun a h => ?_, fun j hj => ?_⟩ r7 ?_ ?_
      · rw [upd_ne (fun e => by subst e; exact h dst), s2.same a (s1.dom a h), s1.same a h]
      · by_cases m : j ∈ is
        · rw [restE_in m (by have := r6.len; rw [wipe_length] at this; rw [this, r1.len])]; exact s1.kp j hj
        · rw [restE_out m, s2.kp j hj, wipeE_out m]; exact s1.kp j hj
      · rw [rg_sh hc (H' := H1) (wf' := wf)]
        exact .lst hroot (ra.mono (rg_shm hc exn))
      · intro _ hf
        refine .lst (show rs (upd Hs2 Dp (.lst accV)) H Dp = _ by rw [rs_none dst, upd_same]) (ra.sc_any hf _ _)
  · rcases bnd_ex q with q | ⟨ds, env1, q1, q⟩
    · have h := si R Hs env σ H F wf r
      have h := h fun J H1 => ∀ D, H1 D = none → ∃ W : Nat → Nat → Hp → Prop, (∃ m, W 0 m (upd H1 D (.lst []))) ∧ ∀ i m H, W i m H → (J.stop i H ∧ Q (.ref D) H) ∨ (J.go i H ∧ ∃ Nx : Hp → Prop, (∀ H', Nx H' → ∃ m', m' < m ∧ W (i + 1) m' H') ∧ ∀ x H', J.yld i H x H' → g x (L2.wipe σ is) H' fun σ2 H2 => L2.wipe σ2 is = L2.wipe σ is ∧ tt σ2 H2 fun b H3 => if b = true then te σ2 H3 fun y H4 => ∃ acc, H4 D = some (.lst acc) ∧ acc.length < sizeLine ∧ Nx (upd H4 D (.lst (acc ++ [y]))) else Nx H3)
      rw [q] at h
      exact h k
    · split at q <;> cases q
theorem se_lcN {elt tg iter : Expr} {ifs : List Expr} {scope : Scope} {own : List (Str × Nat)} {pos : Pos} {wi : TI} {g : TG} {tt : TT} {te : TE} {fi : M (List D)} {ftg : D → M Unit} {ft : M Bool} {fe : M D} (hsh : c.sh = true) (hk : ∀ i ∈ own.map (·.2), cf.kd i = .N) (hc : X.calm = true) (hN : X.N.Nodup) (hi : SIN X cf W tg iter wi fi) (ok : BlkOk X.N X.env.scope scope own)
    (hg : ∀ (s : Shared) (H : Hp) (C : Addr) (cl : List (Str × Addr)) (fp : List Addr), SGtN (X.blk s H scope (compEnvC scope cl C X.env) fp) cf (own.map (·.2)) tg g ftg) (ht : ∀ (s : Shared) (H : Hp) (C : Addr) (cl : List (Str × Addr)) (fp : List Addr), STs (X.blk s H scope (compEnvC scope cl C X.env) fp) cf W0 ifs tt ft)
    (he : ∀ (s : Shared) (H : Hp) (C : Addr) (cl : List (Str × Addr)) (fp : List Addr), SE (X.blk s H scope (compEnvC scope cl C X.env) fp) cf W0 c n1 elt te fe) (hs : ∀ x, foldedSetIterable iter X.env x = pure x := by intro _; rfl) :
    SE X cf W c true (.ListComp elt [⟨tg, iter, ifs, 0⟩] scope pos) (tLc wi g tt te (own.map (·.2))) (eLc (own.map (·.2)) fi ftg ft fe) :=
  ⟨pe_lc hc hN hi.p ok (fun s H C cl fp => (hg s H C cl fp).p) (fun s H C cl fp => (ht s H C cl fp).p) (fun s H C cl fp => (he s H C cl fp).p) hs,
   sd_lcN hsh hk hi.s (hg X.s_0 X.H_0 0 [] []).s (ht X.s_0 X.H_0 0 [] []).s (he X.s_0 X.H_0 0 [] []).s⟩
theorem own1N {x : Str} {i : Nat} {cf : Cf} (h : cf.kd i = .N) : ∀ k ∈ [(x, i)].map (·.2), cf.kd k = .N := fun k m => by
  have : k = i := by simpa using m
  rw [this]; exact h
end
section
variable {X : Cx} {cf : Cf} {W : WX} {ca cb : Cls} {n1 n2 : Bool} {a b : Expr} {ta tb : TE} {fa fb : M D} {pos : Pos}
end
end MV
namespace MV
open PySem PySem.Spec PyProof.Rows L2
section
variable {K : PySem.W.Frag} {Hn H : Hp}
theorem Own.sc_nil {F : List Addr} {v : V} {d : D} (h : Own K Hn H F v d) (hs : d.sc = true) : F = [] := by
  cases h with
  | leaf _ => rfl
  | lst _ _ => cases hs
  | tup _ _ => cases hs
  | dic _ _ _ => cases hs
  | dit _ _ _ => cases hs
theorem OwnL.init : ∀ {F : List Addr} {vs : List V} {ds : List D} {v : V} {d : D}, OwnL K Hn H F (vs ++ [v]) (ds ++ [d]) → vs.length = ds.length → d.sc = true → OwnL K Hn H F vs ds
  | _, [], [], v, d, h, _, hs => by
    have h : OwnL K Hn H _ [v] [d] := h
    cases h with
    | cons h1 h2 =>
      cases h2
      rw [h1.sc_nil hs]
      exact .nil
  | _, _ :: _, [], v, d, h, hl, _ => by cases hl
  | _, [], _ :: _, v, d, h, hl, _ => by cases hl
  | _, x :: xs, y :: ys, v, d, h, hl, hs => by
    have h : OwnL K Hn H _ (x :: (xs ++ [v])) (y :: (ys ++ [d])) := h
    cases h with
    | cons h1 h2 => exact .cons h1 (OwnL.init h2 (by simpa using hl) hs)
theorem OwnL.set : ∀ {F : List Addr} {vs : List V} {ds : List D} (j : Nat) {v : V} {d d0 : D}, OwnL K Hn H F vs ds → ds[j]? = some d0 → d0.sc = true → Rp K true Hn v d → OwnL K Hn H F (vs.set j v) (ds.set j d)
  | _, _, _, j, v, d, d0, .nil, h, _, _ => by simp at h
  | _, _, _, 0, v, d, d0, .cons h1 h2, h, hs, r => by
    simp at h
    subst h
    have e := h1.sc_nil hs
    subst e
    exact OwnL.cons (F := []) (.leaf r) h2
  | _, _, _, j + 1, v, d, d0, .cons h1 h2, h, hs, r => .cons h1 (OwnL.set j h2 (by simpa using h) hs r)
end
section
variable {X : Cx} {cf : Cf} {W : WX} {c : Cls} {n n1 n2 : Bool}
def PostQ (cf : Cf) (W : WX) (R : Rs) (Hs : Hp) (env : PEnv) (σ : L2.St) (H : Hp) (F : Nat → List Addr) (wf : List Addr) (D : Ends) : Res Fl → Prop
  | .ok .nx env' => ∀ Hs' H', Stp cf wf env Hs H env' Hs' H' → Rel cf R Hs' env' σ H' F wf → D.nx σ H'
  | .ok (.rt d) env' => ∀ v Hs' H', Stp cf wf env Hs H env' Hs' H' → Rel cf R Hs' env' σ H' F wf → Rp cf.K true (rs (rm H' wf) R.H0) v d → D.rt v H'
  | .ok .bk env' => ∀ Hs' H', Stp cf wf env Hs H env' Hs' H' → Rel cf R Hs' env' σ H' F wf → D.bk σ H'
  | .ok .ct env' => ∀ Hs' H', Stp cf wf env Hs H env' Hs' H' → Rel cf R Hs' env' σ H' F wf → D.ct σ H'
  | .ex x env' => ∀ Hs' H', Stp cf wf env Hs H env' Hs' H' → Rel cf R Hs' env' σ H' F wf → W (cf.cv x) none σ H'
  | .stuck => False
theorem PostQ.step {R : Rs} {Hs Hs1 : Hp} {env env1 : PEnv} {σ : L2.St} {H H1 : Hp} {F : Nat → List Addr} {wf : List Addr} {D : Ends} {x : Res Fl} (s : Stp cf wf env Hs H env1 Hs1 H1) (h : PostQ cf W R Hs env σ H F wf D x) : PostQ cf W R Hs1 env1 σ H1 F wf D x := by
  cases x with
  | ok f env' =>
    cases f with
    | nx => exact fun Hs' H' s' r' => h Hs' H' (s.trans s') r'
    | rt d => exact fun v Hs' H' s' r' p => h v Hs' H' (s.trans s') r' p
    | bk => exact fun Hs' H' s' r' => h Hs' H' (s.trans s') r'
    | ct => exact fun Hs' H' s' r' => h Hs' H' (s.trans s') r'
  | ex c env' => exact fun Hs' H' s' r' => h Hs' H' (s.trans s') r'
  | stuck => exact h
end
end MV
namespace MV
open PySem PySem.Spec PyProof.Rows L2
structure FnQ (P : Program) (w : World) (K : PySem.W.Frag) (mg : Str → Option Value) (base : Heap) (k : Nat) (f : Addr) (fd : FuncData) (ps : List Str) (sp : Sp) : Prop where
  len : ∀ vs H Q E, sp vs H Q E → vs.length = ps.length
  run : ∀ (A : Around) (outer : List Env) (s : Shared) (H : Hp) (args : Args) (us : List Value) (vs : List V) (Q : VK) (E : XK), L2H.RoomH k A → Env0 P w K mg base A outer s H →
    BindsTo s fd args (ps.zip us) → Vals vs us → sp vs H Q E → codeAny (model P w) A (.call (.ref f) args) (CR (L2N.CX P w) outer P w H s Q E) s
section
variable {P : Program} {w : World} {K : PySem.W.Frag} {mg : Str → Option Value} {base : Heap}
end
section
variable {X : Cx} {cf : Cf} {W : WX}
end
section
variable {X : Cx} {x n : Str} {c : Value} {i : Nat} {body suite : List Stmt} {b₀ : Stmt} {np pos pos' : Pos} {tb : WX → TS} {ts : Addr → Value → TS} {Wo : WX}
end
section
variable {X : Cx} {cf : Cf} {W : WX}
end
end MV
namespace MV
open PySem PySem.Spec PyProof.Rows L2
section
open Classical
variable {cf : Cf} {R : Rs} {Hs H : Hp} {env : PEnv} {σ : L2.St} {F : Nat → List Addr} {wf : List Addr}
def Held (cf : Cf) (F : Nat → List Addr) (a : Addr) : Prop := ∃ i, cf.kd i ≠ .W ∧ a ∈ F i
theorem Held.un (r : Rel cf R Hs env σ H F wf) {a : Addr} (h : Held cf F a) : Hs a = none := by obtain ⟨i, _, m⟩ := h; exact r.uns i a m
theorem Held.nw (r : Rel cf R Hs env σ H F wf) {a : Addr} (h : Held cf F a) : a ∉ wf := by obtain ⟨i, k, m⟩ := h; exact r.volb i k a m
theorem Held.dom (r : Rel cf R Hs env σ H F wf) {a : Addr} (h : Held cf F a) : H a ≠ none := by obtain ⟨i, k, m⟩ := h; exact r.fdom i a m
end
section
variable {X : Cx} {cf : Cf} {W : WX} {a : Expr} {ta : TE} {fa : M D} {n : Bool}
end
end MV
namespace MV
open PySem PySem.Spec PyProof.Rows L2
open PySem.W (minD)
def gIxL : D → D → Option D
  | .lst ds, .int i => L2.atI ds i
  | _, _ => none
@[simp] theorem gIxL_l {ds : List D} {i : Int} : gIxL (.lst ds) (.int i) = L2.atI ds i := (rfl)
section
variable {X : Cx} {cf : Cf} {W : WX} {c : Cls} {n n1 : Bool}
def gMinXL : List D → Option D
  | [.lst ds] => gMinX [.lst ds]
  | _ => none
@[simp] theorem gMinXL_l {ds : List D} : gMinXL [.lst ds] = gMinX [.lst ds] := (rfl)
section
variable {e : Expr} {p pos kpos npos : Pos} {j i : Nat}
end
section
variable {R : Rs} {Hs H : Hp} {env : PEnv} {σ : L2.St} {F : Nat → List Addr} {wf : List Addr}
end
end
end MV
namespace MV
open PySem PySem.Spec PyProof.Rows L2
section
variable {X : Cx} {cf : Cf} {W : WX} {c : Cls} {n n1 : Bool}
def SdGsN (cf : Cf) (is js : List Nat) (g : TGs) : Prop :=
  ∀ (R : Rs) (Hs : Hp) (env : PEnv) (σ : L2.St) (H : Hp) (F : Nat → List Addr) (wf : List Addr), Rel cf R Hs env σ H F wf → ∀ (ds : List D) (vs : List V), RpL cf.K true (rs Hs R.H0) vs ds → ∀ Q : L2.St → Hp → Prop, ∀ env', setAll js ds env = some env' →
    (∀ σ', Rel cf R Hs env' σ' H F wf → wipe σ' is = wipe σ is → (∀ j, j ∉ is → env'[j]? = env[j]?) → Q σ' H) → g vs σ H Q
structure SGtsN (X : Cx) (cf : Cf) (is js : List Nat) (ts : List Expr) (g : TGs) : Prop where
  p : PGs X ts g
  s : SdGsN cf is js g
end
end MV
namespace MV
open PySem PySem.Spec PyProof.Rows L2
def gZpA : List D → Option (List D)
  | [.lst as, .lst bs] => some (zipD as bs)
  | [.tup as, .tup bs] => some (zipD as bs)
  | _ => none
@[simp] theorem gZpA_l {a b : List D} : gZpA [.lst a, .lst b] = some (zipD a b) := (rfl)
@[simp] theorem gZpA_t {a b : List D} : gZpA [.tup a, .tup b] = some (zipD a b) := (rfl)
section
variable {X : Cx} {cf : Cf} {W : WX} {c : Cls} {n n1 : Bool}
end
end MV
namespace MV
open PySem PySem.Spec PyProof.Rows L2
def sClr (i : Nat) : M Fl := fun e => match lstAt i e with
  | some _ => .ok .nx (e.set i (some (.lst [])))
  | none => .stuck
section
variable {X : Cx} {cf : Cf} {W : WX} {c : Cls} {n n1 : Bool}
@[simp] theorem r_sClr {i : Nat} {e : PEnv} : sClr i e = ro (lstO (e[i]?)) fun _ => .ok .nx (e.set i (some (.lst []))) := by
  unfold sClr
  show _ = ro (lstAt i e) _
  cases lstAt i e <;> rfl
end
end MV
namespace MV
open PySem PySem.Spec PyProof.Rows L2
section
variable {cf : Cf} {R : Rs} {Hs H : Hp} {env : PEnv} {σ : L2.St} {F : Nat → List Addr} {wf : List Addr} {i : Nat} {p : Addr} {kvs : List (Key × D)} {kvs' : List (Key × V)}
end
def eLock (i : Nat) (f : M D) : M D := fun e => match e[i]? with
  | some (some (.dic kvs)) => if (kvs.map (·.2)).all D.sc then (match f e with
    | .ok d e' => .ok d e'
    | _ => .stuck) else .stuck
  | _ => .stuck
section
variable {X : Cx} {cf : Cf} {W : WX} {a : Expr} {ta : TE} {fa : M D} {n : Bool} {i : Nat}
@[simp] theorem r_eLock {e : PEnv} {kvs : List (Key × D)} (h : e[i]? = some (some (.dic kvs))) (hs : (kvs.map (·.2)).all D.sc = true) {d : D} {e' : PEnv} (hf : fa e = .ok d e') : eLock i fa e = .ok d e' := by
  unfold eLock
  simp only [h, hs, hf, if_true]
end
end MV
namespace MV
open PySem PySem.Spec PyProof.Rows L2
def gIsB : D → D → Option D
  | .bl a, .bl b => some (.bl (decide (a = b)))
  | _, _ => none
def gNotB : D → D → Option D
  | .bl a, .bl b => some (.bl (!decide (a = b)))
  | _, _ => none
@[simp] theorem gIsB_b {a b : Bool} : gIsB (.bl a) (.bl b) = some (.bl (decide (a = b))) := (rfl)
@[simp] theorem gNotB_b {a b : Bool} : gNotB (.bl a) (.bl b) = some (.bl (!decide (a = b))) := (rfl)
section
variable {X : Cx} {cf : Cf} {W : WX} {c c' : Cls} {n n1 n2 : Bool} {a b : Expr} {ta tb : TE} {fa fb : M D} {pos : Pos}
end
def okR3 (i j c : Int) : Bool := decide (c ≠ 0) && decide (c.natAbs < 1073741824) && Builtin.Range.small i j c && decide ((Builtin.Range.rangeSize i j c).toNat ≤ LIM)
def gLR3 : List D → Option D
  | [.int i, .int j, .int c] => if okR3 i j c then some (.lst (rngC i c (Builtin.Range.rangeSize i j c).toNat)) else none
  | _ => none
@[simp] theorem gLR3_i {i j c : Int} : gLR3 [.int i, .int j, .int c] = if okR3 i j c then some (.lst (rngC i c (Builtin.Range.rangeSize i j c).toNat)) else none := (rfl)
section
variable {X : Cx} {cf : Cf} {W : WX} {c : Cls} {n : Bool}
end
end MV
namespace MV
open PySem PySem.Spec PyProof.Rows L2
section
variable {X : Cx} {cf : Cf} {W : WX}
end
end MV
namespace MV
open PySem L2
def fgR (i : Nat) : Res Fl → Res Fl
  | .ok f e => .ok f (e.set i none)
  | .ex c e => .ex c (e.set i none)
  | .stuck => .stuck
def sSeal (i : Nat) (g : M Fl) : M Fl := fun e => fgR i (g e)
section
variable {cf : Cf} {R : Rs} {Hs H H' : Hp} {env : PEnv} {σ : L2.St} {F : Nat → List Addr} {wf : List Addr} {i : Nat}
end
section
variable {X : Cx} {cf : Cf} {W : WX}
end
@[simp] theorem r_sSeal {i : Nat} {g : M Fl} {e : PEnv} : sSeal i g e = fgR i (g e) := rfl
@[simp] theorem fgR_ok {i : Nat} {f : Fl} {e : PEnv} : fgR i (.ok f e) = .ok f (e.set i none) := rfl
@[simp] theorem fgR_ex {i : Nat} {c : Str} {e : PEnv} : fgR i (.ex c e) = .ex c (e.set i none) := rfl
end MV
namespace MV
open PySem L2
open PySem.W (alike alikeAll dataLt minD AlikeAll AllAlike Sortable dataLe EachIs)
def leD (a b : D) : Bool := !ltD b a
section
variable {X : Cx} {cf : Cf} {W : WX} {c : Cls}
end
end MV
namespace MV
open PySem PySem.Spec PyProof.Rows L2
section
variable {X : Cx} {cf : Cf} {W : WX} {c : Cls} {n n1 n2 : Bool}
end
@[simp] theorem tyD_s {z : Str} : tyD (.str z) = "str" := (rfl)
end MV
namespace Ov
open PySem MV
def B_need_signs : M Fl := (sIf (tB (e2 gNe (eLc [1] (iL (eV 0)) (tgN 1) (tOr2 (tB (e2 gNe (eN gLen (aCons (eV 1) aNil)) (eC (.int 1)))) (tB (e2 gNotIn (eV 1) (eC (.str (Str.ofString "abcdefghijklmnopqrstuvwxyz")))))) (eV 1)) (eN gLst aNil))) (sRaise (Str.ofString "NoSign")) sSkip)
def F_need_signs : List D → FR := runF 2 B_need_signs
def B__law_take : M Fl := (sSeq (sIf (tB (e2 gGt (eIxW 0 (eC (.int 0))) (eC (.int 0)))) (sSeq (sSet 2 (e2 gMod (eIxW 0 (eC (.int 0))) (eV 1)))
  (sSeq (sPutW 0 (e2 gFdiv (eIxW 0 (eC (.int 0))) (eV 1)) (eC (.int 0)))
  (sRet (eV 2)))) sSkip)
  (sSeq (sPutW 0 (e2 gMod (e2 gMul (eIxW 0 (eC (.int 1))) (eC (.int 48271))) (eC (.int 2147483647))) (eC (.int 1)))
  (sRet (e2 gMod (e2 gFdiv (e2 gPow (e2 gAdd (eIxW 0 (eC (.int 1))) (eC (.int 1))) (eC (.int 7))) (eC (.int 8))) (eV 1)))))
def F__law_take : List D → FR := runF 3 B__law_take
def B__law_ends : M Fl := (sRet (eF (eLc [1] (iN gR1 (aCons (eN gLen (aCons (eV 0) aNil)) aNil)) (tgN 1) (tB (e2 gEq (eSl (eV 0) oNone (oSome (eV 1))) (eSl (eV 0) (oSome (e2 gSub (eN gLen (aCons (eV 0) aNil)) (eV 1))) oNone))) (eV 1))))
def F__law_ends : List D → FR := runF 2 B__law_ends
def B__law_wholes : M Fl := (sSeq (sIf (tOr2 (tNot1 (tB (eIsi "list" (eV 0)))) (tB (e2 gNe (eV 0) (eV 1)))) (sRet (eC (.bl false))) sSkip)
  (sRet (e2 gEq (eLc [2] (iL (eV 0)) (tgN 2) (tOr2 (tNot1 (tB (eIsi "int" (eV 2)))) (tB (eIsi "bool" (eV 2)))) (eV 2)) (eN gLst aNil))))
def F__law_wholes : List D → FR := runF 3 B__law_wholes
def B__law_letters_l1 : M Fl := (sSeq (sSet 4 (eCallW F__law_take 0 (aCons (eN gLen (aCons (eV 1) aNil)) aNil)))
  (sSeq (sSet 2 (eF (e2 gAdd (eV 2) (e2 gIx (eV 1) (eV 4)))))
  (sSet 1 (e2 gAdd (eSl (eV 1) oNone (oSome (eV 4))) (eSl (eV 1) (oSome (e2 gAdd (eV 4) (eC (.int 1)))) oNone)))))
def B__law_letters : M Fl := (sSeq (sSet 1 (eC (.str (Str.ofString "abcdefghijklmnopqrstuvwxyz"))))
  (sSeq (sSet 2 (eC (.str (Str.ofString ""))))
  (sSeq (sFor (iN gR1 (aCons (e2 gIx (eN gLst (aCons (eC (.int 2)) (aCons (eC (.int 3)) (aCons (eC (.int 5)) (aCons (eC (.int 26)) aNil))))) (eCallW F__law_take 0 (aCons (eC (.int 4)) aNil))) aNil)) (tgN 3) B__law_letters_l1)
  (sRet (eV 2)))))
def F__law_letters : List D → FR := runF 5 B__law_letters
def B__law_signs : M Fl := (sRet (eF (eLc [3] (iN gR1 (aCons (eV 2) aNil)) (tgN 3) tTrue (e2 gIx (eV 1) (eCallW F__law_take 0 (aCons (eN gLen (aCons (eV 1) aNil)) aNil))))))
def F__law_signs : List D → FR := runF 4 B__law_signs
def B_need_word : M Fl := (sIf (tB (e2 gEq (eV 0) (eN gLst aNil))) (sRaise (Str.ofString "NoWord")) sSkip)
def F_need_word : List D → FR := runF 1 B_need_word
def B_laid_at : M Fl := (sSeq (sSet 2 (eN gLen (aCons (eV 1) aNil)))
  (sRet (eF (eLc [3] (iN gR1 (aCons (e2 gAdd (e2 gSub (eN gLen (aCons (eV 0) aNil)) (eV 2)) (eC (.int 1))) aNil)) (tgN 3) (tB (e2 gEq (eSl (eV 0) (oSome (eV 3)) (oSome (e2 gAdd (eV 3) (eV 2)))) (eV 1))) (eV 3)))))
def F_laid_at : List D → FR := runF 4 B_laid_at
def B__law_lies_l1 : M Fl := (sIf (tB (e2 gEq (eLc [4] (iN gR1 (aCons (eN gLen (aCons (eV 1) aNil)) aNil)) (tgN 4) (tB (e2 gNe (e2 gIx (eV 0) (e2 gAdd (eV 3) (eV 4))) (e2 gIx (eV 1) (eV 4)))) (eV 4)) (eN gLst aNil))) (sApp 2 (eS (eV 3))) sSkip)
def B__law_lies : M Fl := (sSeq (sSetM 2 (eN gLst aNil))
  (sSeq (sFor (iN gR1 (aCons (e2 gAdd (e2 gSub (eN gLen (aCons (eV 0) aNil)) (eN gLen (aCons (eV 1) aNil))) (eC (.int 1))) aNil)) (tgN 3) B__law_lies_l1)
  (sRet (eV 2))))
def F__law_lies : List D → FR := runF 5 B__law_lies
def B_lies_at : M Fl := (sSeq (sDrop (eCall F_need_word (aCons (eV 1) aNil)))
  (sSeq (sDrop (eCall F_need_signs (aCons (e2 gAdd (eV 0) (eV 1)) aNil)))
  (sRet (eCall F_laid_at (aCons (eV 0) (aCons (eV 1) aNil))))))
def F_lies_at : List D → FR := runF 2 B_lies_at
def B__law_word : M Fl := (sSeq (sSet 3 (eCallW F__law_take 0 (aCons (eC (.int 4)) aNil)))
  (sSeq (sSet 4 (e2 gAdd (eC (.int 1)) (eCallW F__law_take 0 (aCons (eN gMax2 (aCons (eC (.int 1)) (aCons (eN gLen (aCons (eV 2) aNil)) aNil))) aNil))))
  (sSeq (sSet 5 (eCallW F__law_take 0 (aCons (eN gMax2 (aCons (eC (.int 1)) (aCons (eN gLen (aCons (eV 2) aNil)) aNil))) aNil)))
  (sSeq (sSetM 6 (e2 gIx (eN gLst (aCons (eF (eSl (eV 2) oNone (oSome (eV 4)))) (aCons (eF (eSl (eV 2) (oSome (eV 5)) (oSome (e2 gAdd (eV 5) (eV 4))))) (aCons (eN gLst aNil) (aCons (eF (eSl (eV 2) oNone (oSome (e2 gAdd (eC (.int 1)) (e2 gMod (eV 4) (eC (.int 7))))))) aNil))))) (eS (eV 3))))
  (sSeq (sIf (tB (e2 gEq (eV 6) (eN gLst aNil))) (sSetM 6 (eCallW F__law_signs 0 (aCons (eV 1) (aCons (e2 gAdd (eC (.int 1)) (eCallW F__law_take 0 (aCons (eC (.int 6)) aNil))) aNil)))) sSkip)
  (sSeq (sIf (tB (e2 gEq (eCallW F__law_take 0 (aCons (eC (.int 8)) aNil)) (eC (.int 1)))) (sSeq (sSetM 6 (eF (eN gList1 (aCons (eV 6) aNil))))
  (sPut 6 (eS (e2 gIx (eV 1) (eCallW F__law_take 0 (aCons (eN gLen (aCons (eV 1) aNil)) aNil)))) (eCallW F__law_take 0 (aCons (eN gLen (aCons (eV 6) aNil)) aNil)))) sSkip)
  (sRet (eV 6))))))))
def F__law_word : List D → FR := runF 7 B__law_word
def B__law_right_l1 : M Fl := (sSeq (sSetM 5 (eCall F_lies_at (aCons (e2 gIx (eV 3) (eC (.int 0))) (aCons (e2 gIx (eV 3) (eC (.int 1))) aNil))))
  (sSeq (sIf (tOr2 (tNot1 (tB (eCall F__law_wholes (aCons (eV 5) (aCons (eV 2) aNil))))) (tB (e2 gNe (eV 3) (eN gTupD (aCons (eV 0) (aCons (eV 1) aNil)))))) (sRet (eC (.bl false))) sSkip)
  (sApp 5 (eC (.int 0)))))
def B__law_right : M Fl := (sSeq (sSet 2 (eCall F__law_lies (aCons (eV 0) (aCons (eV 1) aNil))))
  (sSeq (sSet 3 (eN gTupD (aCons (eN gList1 (aCons (eV 0) aNil)) (aCons (eN gList1 (aCons (eV 1) aNil)) aNil))))
  (sSeq (sFor (iN gR1 (aCons (eC (.int 2)) aNil)) (tgN 4) B__law_right_l1)
  (sRet (eC (.bl true))))))
def F__law_right : List D → FR := runF 6 B__law_right
def B__law_kind : M Fl := (sSeq (sIf (tB (e2 gIsN (eV 0) (eC .non))) (sRet (eC (.str (Str.ofString "told")))) sSkip)
  (sSeq (sSet 1 (e1 (gIsXT [(Str.ofString "NoWord"), (Str.ofString "NoSign")] [(Str.ofString "NoChain"), (Str.ofString "NoForm"), (Str.ofString "NoNumber"), (Str.ofString "NoneYet"), (Str.ofString "TooMany")]) (eV 0)))
  (sSeq (sSetM 2 (eN gLst (aCons (e1 (gIsX [(Str.ofString "NoWord"), (Str.ofString "NoSign")] (Str.ofString "NoWord")) (eV 0)) (aCons (e1 (gIsX [(Str.ofString "NoWord"), (Str.ofString "NoSign")] (Str.ofString "NoSign")) (eV 0)) (aCons (e1 (gIsX [(Str.ofString "NoWord"), (Str.ofString "NoSign")] (Str.ofString "NoText")) (eV 0)) aNil)))))
  (sSeq (sApp 2 (e1 (gIsX [(Str.ofString "NoWord"), (Str.ofString "NoSign")] (Str.ofString "NoCover")) (eV 0)))
  (sSeq (sIf (tOr2 (tTr (eV 1)) (tOr2 (tNot1 (tB (e1 (gIsX [(Str.ofString "NoWord"), (Str.ofString "NoSign")] (Str.ofString "ValueError")) (eV 0)))) (tB (e2 gNe (eM "list" gCount (eV 2) (aCons (eC (.bl true)) aNil)) (eC (.int 1)))))) (sRet (eC (.str (Str.ofString "odd")))) sSkip)
  (sRet (e2 gIx (eN gLst (aCons (eC (.str (Str.ofString "NoWord"))) (aCons (eC (.str (Str.ofString "NoSign"))) (aCons (eC (.str (Str.ofString "NoText"))) (aCons (eC (.str (Str.ofString "NoCover"))) aNil))))) (eM "list" gIndex (eV 2) (aCons (eC (.bl true)) aNil)))))))))
def F__law_kind : List D → FR := runF 3 B__law_kind
def B_need_text : M Fl := (sIf (tB (e2 gEq (eV 0) (eN gLst aNil))) (sRaise (Str.ofString "NoText")) sSkip)
def F_need_text : List D → FR := runF 1 B_need_text
def B_need_both : M Fl := (sSeq (sDrop (eCall F_need_word (aCons (eV 1) aNil)))
  (sSeq (sDrop (eCall F_need_signs (aCons (e2 gAdd (eV 0) (eV 1)) aNil)))
  (sDrop (eCall F_need_text (aCons (eV 0) aNil)))))
def F_need_both : List D → FR := runF 2 B_need_both
def B__law_due_l1 : M Fl := (sIf (tAnd2 (tB (e2 gLe (eV 4) (eV 3))) (tB (e2 gEq (eSl (eV 0) (oSome (eV 4)) (oSome (e2 gAdd (eV 4) (eV 2)))) (eSl (eV 0) oNone (oSome (eV 2)))))) (sSet 3 (e2 gAdd (eV 4) (eV 2))) sSkip)
def B__law_due_l2 : M Fl := (sSeq (sSet 3 (eC (.int 0)))
  (sSeq (sFor (iN gR1 (aCons (e2 gAdd (e2 gSub (eN gLen (aCons (eV 0) aNil)) (eV 2)) (eC (.int 1))) aNil)) (tgN 4) B__law_due_l1)
  (sIf (tB (e2 gEq (eV 3) (eN gLen (aCons (eV 0) aNil)))) (sApp 1 (eS (eV 2))) sSkip)))
def B__law_due : M Fl := (sSeq (sSetM 1 (eN gLst aNil))
  (sSeq (sFor (iN gR2 (aCons (eC (.int 1)) (aCons (e2 gAdd (eN gLen (aCons (eV 0) aNil)) (eC (.int 1))) aNil))) (tgN 2) B__law_due_l2)
  (sRet (eV 1))))
def F__law_due : List D → FR := runF 5 B__law_due
def B_hung_ahead_l1 : M Fl := (sIf (tB (e2 gEq (eSl (eV 1) (oSome (e2 gSub (eN gLen (aCons (eV 1) aNil)) (eV 2))) oNone) (eSl (eV 0) oNone (oSome (eV 2))))) (sRet (eS (eV 2))) sSkip)
def B_hung_ahead : M Fl := (sSeq (sFor (iN gR3 (aCons (eN gMin2 (aCons (eN gLen (aCons (eV 0) aNil)) (aCons (e2 gSub (eN gLen (aCons (eV 1) aNil)) (eC (.int 1))) aNil))) (aCons (eC (.int 0)) (aCons (e1 gNeg (eC (.int 1))) aNil)))) (tgN 2) B_hung_ahead_l1)
  (sRet (eC (.int 0))))
def F_hung_ahead : List D → FR := runF 3 B_hung_ahead
def B_hung_behind_l1 : M Fl := (sIf (tB (e2 gEq (eSl (eV 1) oNone (oSome (eV 2))) (eSl (eV 0) (oSome (e2 gSub (eN gLen (aCons (eV 0) aNil)) (eV 2))) oNone))) (sRet (eS (eV 2))) sSkip)
def B_hung_behind : M Fl := (sSeq (sFor (iN gR3 (aCons (eN gMin2 (aCons (eN gLen (aCons (eV 0) aNil)) (aCons (e2 gSub (eN gLen (aCons (eV 1) aNil)) (eC (.int 1))) aNil))) (aCons (eC (.int 0)) (aCons (e1 gNeg (eC (.int 1))) aNil)))) (tgN 2) B_hung_behind_l1)
  (sRet (eC (.int 0))))
def F_hung_behind : List D → FR := runF 3 B_hung_behind
def B__law_cell_at : M Fl := (sSeq (sIf (tB (e2 gLt (eV 1) (eLenQ 0))) (sRet (eIxQ 0 (eV 1))) sSkip)
  (sRet (eC (.int 0))))
def F__law_cell_at : List D → FR := runF 2 B__law_cell_at
def B__law_deck : M Fl := (sRet (eN gLst (aCons (eN gMax2 (aCons (eC (.int 0)) (aCons (e2 gSub (eV 0) (e2 gPow (eC (.int 10)) (eC (.int 18)))) aNil))) (aCons (e2 gMod (eV 0) (eC (.int 2147483629))) (aCons (eC (.int 0)) aNil)))))
def F__law_deck : List D → FR := runF 1 B__law_deck
def B__law_take_v3 : M Fl := (sSeq (sPutW 0 (e2 gAdd (eIxW 0 (eC (.int 2))) (eC (.int 1))) (eC (.int 2)))
  (sSeq (sIf (tB (e2 gGt (eIxW 0 (eC (.int 0))) (eC (.int 0)))) (sSeq (sSet 3 (e2 gMod (eIxW 0 (eC (.int 0))) (eC (.int 65536))))
  (sSeq (sPutW 0 (e2 gFdiv (eIxW 0 (eC (.int 0))) (eC (.int 65536))) (eC (.int 0)))
  (sRet (e2 gMod (eV 3) (eV 1))))) sSkip)
  (sSeq (sSet 2 (e2 gMod (e2 gMul (e2 gAdd (eIxW 0 (eC (.int 1))) (e2 gMul (eC (.int 7919)) (eIxW 0 (eC (.int 2))))) (eC (.int 48271))) (eC (.int 2147483647))))
  (sSeq (sSet 2 (e2 gMod (e2 gMul (eV 2) (eV 2)) (eC (.int 2147483629))))
  (sRet (e2 gMod (e2 gFdiv (e2 gMod (e2 gMul (e2 gAdd (eV 2) (e2 gMul (eC (.int 40692)) (eIxW 0 (eC (.int 2))))) (eC (.int 69621))) (eC (.int 2147483563))) (eC (.int 8))) (eV 1)))))))
def F__law_take_v3 : List D → FR := runF 4 B__law_take_v3
def B__law_is_covered_l1 : M Fl := (sIf (tAnd2 (tB (e2 gLe (eV 3) (eV 2))) (tB (e2 gEq (eSl (eV 0) (oSome (eV 3)) (oSome (e2 gAdd (eV 3) (eN gLen (aCons (eV 1) aNil))))) (eV 1)))) (sSet 2 (e2 gAdd (eV 3) (eN gLen (aCons (eV 1) aNil)))) sSkip)
def B__law_is_covered : M Fl := (sSeq (sSet 2 (eC (.int 0)))
  (sSeq (sFor (iN gR1 (aCons (e2 gAdd (e2 gSub (eN gLen (aCons (eV 0) aNil)) (eN gLen (aCons (eV 1) aNil))) (eC (.int 1))) aNil)) (tgN 3) B__law_is_covered_l1)
  (sRet (e2 gGe (eV 2) (eN gLen (aCons (eV 0) aNil))))))
def F__law_is_covered : List D → FR := runF 4 B__law_is_covered
def B_covers_amid_l1 : M Fl := (sIf (tB (e2 gLe (eV 5) (eV 4))) (sSet 4 (eN gMax2 (aCons (eV 4) (aCons (e2 gAdd (eV 5) (eN gLen (aCons (eV 1) aNil))) aNil)))) sSkip)
def B_covers_amid : M Fl := (sSeq (sSet 4 (eV 2))
  (sSeq (sFor (iL (eCall F_laid_at (aCons (eV 0) (aCons (eV 1) aNil)))) (tgN 5) B_covers_amid_l1)
  (sRet (e2 gGe (eV 4) (eV 3)))))
def F_covers_amid : List D → FR := runF 6 B_covers_amid
def B_is_within : M Fl := (sRet (e2 gNe (eCall F_laid_at (aCons (eV 1) (aCons (eV 0) aNil))) (eN gLst aNil)))
def F_is_within : List D → FR := runF 2 B_is_within
def B__law_letters_v3 : M Fl := (sSeq (sSet 1 (eC (.str (Str.ofString "abcdefghijklmnopqrstuvwxyz"))))
  (sSeq (sSet 2 (eCallW F__law_take_v3 0 (aCons (eC (.int 26)) aNil)))
  (sSeq (sSet 3 (e2 gIx (eN gLst (aCons (eC (.int 1)) (aCons (eC (.int 3)) (aCons (eC (.int 5)) (aCons (eC (.int 7)) (aCons (eC (.int 9)) (aCons (eC (.int 11)) (aCons (eC (.int 15)) (aCons (eC (.int 17)) (aCons (eC (.int 19)) (aCons (eC (.int 21)) (aCons (eC (.int 23)) (aCons (eC (.int 25)) aNil))))))))))))) (eCallW F__law_take_v3 0 (aCons (eC (.int 12)) aNil))))
  (sSeq (sSet 4 (e2 gIx (eN gLst (aCons (eC (.int 2)) (aCons (eC (.int 2)) (aCons (eC (.int 3)) (aCons (eC (.int 26)) (aCons (eC (.int 26)) (aCons (eC (.int 1)) aNil))))))) (eCallW F__law_take_v3 0 (aCons (eC (.int 6)) aNil))))
  (sRet (eF (eLc [5] (iN gR1 (aCons (eV 4) aNil)) (tgN 5) tTrue (e2 gIx (eV 1) (e2 gMod (e2 gAdd (eV 2) (e2 gMul (eV 3) (eV 5))) (eC (.int 26)))))))))))
def F__law_letters_v3 : List D → FR := runF 6 B__law_letters_v3
def B__law_signs_v3 : M Fl := (sRet (eF (eLc [3] (iN gR1 (aCons (eV 2) aNil)) (tgN 3) tTrue (e2 gIx (eV 1) (eCallW F__law_take_v3 0 (aCons (eN gLen (aCons (eV 1) aNil)) aNil))))))
def F__law_signs_v3 : List D → FR := runF 4 B__law_signs_v3
def B__law_word_v4 : M Fl := (sSeq (sSet 3 (eCallW F__law_take_v3 0 (aCons (eC (.int 4)) aNil)))
  (sSeq (sSet 4 (eCallW F__law_signs_v3 0 (aCons (eV 1) (aCons (e2 gAdd (eC (.int 1)) (eCallW F__law_take_v3 0 (aCons (eV 2) aNil))) aNil))))
  (sSeq (sIf (tB (e2 gEq (eV 3) (eC (.int 1)))) (sSet 4 (e2 gAdd (e2 gAdd (eV 4) (eCallW F__law_signs_v3 0 (aCons (eV 1) (aCons (eCallW F__law_take_v3 0 (aCons (eC (.int 3)) aNil)) aNil)))) (eV 4))) sSkip)
  (sSeq (sIf (tB (e2 gEq (eV 3) (eC (.int 2)))) (sSet 4 (e2 gAdd (e2 gMul (eV 4) (e2 gAdd (eC (.int 1)) (eCallW F__law_take_v3 0 (aCons (eC (.int 3)) aNil)))) (eSl (eV 4) oNone (oSome (eCallW F__law_take_v3 0 (aCons (e2 gAdd (eN gLen (aCons (eV 4) aNil)) (eC (.int 1))) aNil)))))) sSkip)
  (sRet (eV 4))))))
def F__law_word_v4 : List D → FR := runF 5 B__law_word_v4
def B__law_overlaid_v2_l1 : M Fl := (sSeq (sSet 6 (eLc [8] (iN gR1 (aCons (eN gLen (aCons (eV 2) aNil)) aNil)) (tgN 8) (tOr2 (tB (e2 gEq (eV 8) (eC (.int 0)))) (tB (e2 gEq (eSl (eV 4) (oSome (e2 gSub (eN gLen (aCons (eV 4) aNil)) (eV 8))) oNone) (eSl (eV 2) oNone (oSome (eV 8)))))) (eV 8)))
  (sSeq (sSet 7 (e2 gIx (eV 6) (eCallW F__law_take_v3 0 (aCons (eN gLen (aCons (eV 6) aNil)) aNil))))
  (sSeq (sIf (tB (e2 gEq (eCallW F__law_take_v3 0 (aCons (eC (.int 8)) aNil)) (eC (.int 0)))) (sSeq (sSet 4 (e2 gAdd (eV 4) (eCallW F__law_signs_v3 0 (aCons (eV 1) (aCons (eC (.int 1)) aNil)))))
  (sSet 7 (eC (.int 0)))) sSkip)
  (sSet 4 (eF (e2 gAdd (eV 4) (eSl (eV 2) (oSome (eV 7)) oNone)))))))
def B__law_overlaid_v2 : M Fl := (sSeq (sSet 4 (eF (eN gList1 (aCons (eV 2) aNil))))
  (sSeq (sFor (iN gR1 (aCons (eV 3) aNil)) (tgN 5) B__law_overlaid_v2_l1)
  (sRet (eV 4))))
def F__law_overlaid_v2 : List D → FR := runF 9 B__law_overlaid_v2
def B__law_bent : M Fl := (sSeq (sSet 3 (eCallW F__law_take_v3 0 (aCons (e2 gAdd (eN gLen (aCons (eV 2) aNil)) (eC (.int 1))) aNil)))
  (sSeq (sSet 4 (eCallW F__law_take_v3 0 (aCons (eC (.int 3)) aNil)))
  (sSeq (sIf (tB (e2 gEq (eV 4) (eC (.int 0)))) (sRet (eF (e2 gAdd (eSl (eV 2) oNone (oSome (eV 3))) (eSl (eV 2) (oSome (e2 gAdd (eV 3) (eC (.int 1)))) oNone)))) sSkip)
  (sRet (eF (e2 gAdd (e2 gAdd (eSl (eV 2) oNone (oSome (eV 3))) (eCallW F__law_signs_v3 0 (aCons (eV 1) (aCons (eC (.int 1)) aNil)))) (eSl (eV 2) (oSome (e2 gSub (e2 gAdd (eV 3) (eC (.int 2))) (eV 4))) oNone)))))))
def F__law_bent : List D → FR := runF 5 B__law_bent
def T__law_pair_l1 : M Bool := (tB (e2 gLt (eN gLen (aCons (eV 4) aNil)) (eC (.int 200))))
def B__law_pair_l2 : M Fl := (sSet 4 (e2 gAdd (eV 4) (eV 4)))
def B__law_pair : M Fl := (sSeq (sSet 2 (eCallW F__law_letters_v3 0 aNil))
  (sSeq (sSet 3 (eCallW F__law_word_v4 0 (aCons (eV 2) (aCons (e2 gIx (eN gLst (aCons (eC (.int 3)) (aCons (eC (.int 6)) (aCons (eC (.int 12)) aNil)))) (eCallW F__law_take_v3 0 (aCons (eC (.int 3)) aNil))) aNil))))
  (sSeq (sSet 4 (eCallW F__law_overlaid_v2 0 (aCons (eV 2) (aCons (eV 3) (aCons (eCallW F__law_take_v3 0 (aCons (eC (.int 5)) aNil)) aNil)))))
  (sSeq (sIf (tAnd2 (tTr (eV 1)) (tB (e2 gEq (eCallW F__law_take_v3 0 (aCons (eC (.int 16)) aNil)) (eC (.int 3))))) (sSeq (sSet 4 (eCallW F__law_overlaid_v2 0 (aCons (eV 2) (aCons (eV 3) (aCons (eC (.int 20)) aNil)))))
  (sWhile T__law_pair_l1 B__law_pair_l2 WFUEL)) sSkip)
  (sSeq (sSet 5 (eCallW F__law_take_v3 0 (aCons (e2 gIx (eN gLst (aCons (eC (.int 1)) (aCons (e2 gAdd (eN gLen (aCons (eV 3) aNil)) (eC (.int 1))) aNil))) (eCallW F__law_take_v3 0 (aCons (eC (.int 2)) aNil))) aNil)))
  (sSeq (sSet 6 (eCallW F__law_take_v3 0 (aCons (e2 gIx (eN gLst (aCons (eC (.int 1)) (aCons (e2 gAdd (eN gLen (aCons (eV 3) aNil)) (eC (.int 1))) aNil))) (eCallW F__law_take_v3 0 (aCons (eC (.int 2)) aNil))) aNil)))
  (sSeq (sSet 4 (eSl (eSl (eV 4) (oSome (eV 5)) oNone) oNone (oSome (eC (.int 200)))))
  (sSeq (sSet 4 (eSl (eV 4) oNone (oSome (e2 gSub (eN gLen (aCons (eV 4) aNil)) (eN gMin2 (aCons (eV 6) (aCons (eN gLen (aCons (eV 4) aNil)) aNil)))))))
  (sSeq (sIf (tB (e2 gEq (eCallW F__law_take_v3 0 (aCons (eC (.int 4)) aNil)) (eC (.int 0)))) (sSet 4 (eSl (eCallW F__law_bent 0 (aCons (eV 2) (aCons (eV 4) aNil))) oNone (oSome (eC (.int 200))))) sSkip)
  (sSeq (sIf (tB (e2 gEq (eCallW F__law_take_v3 0 (aCons (eC (.int 6)) aNil)) (eC (.int 0)))) (sSet 3 (eCallW F__law_bent 0 (aCons (eV 2) (aCons (eV 3) aNil)))) sSkip)
  (sRet (eN gTupD (aCons (eOrT (eV 4) (eSl (eV 2) oNone (oSome (eC (.int 1))))) (aCons (eOrT (eV 3) (eSl (eV 2) oNone (oSome (eC (.int 1))))) aNil))))))))))))))
def F__law_pair : List D → FR := runF 7 B__law_pair
def B_shown_with_rests_v2_l1 : M Fl := (sIf (tB (eCall F_covers_amid (aCons (eV 0) (aCons (eV 1) (aCons (eV 5) (aCons (e2 gSub (eN gLen (aCons (eV 0) aNil)) (eV 6)) aNil)))))) (sSeq (sSet 7 (eIfE (tB (e2 gGt (eV 5) (eC (.int 0)))) (eSl (eV 1) oNone (oSome (e2 gSub (eN gLen (aCons (eV 1) aNil)) (eV 5)))) (eN gLst aNil)))
  (sApp 2 (eF (e2 gAdd (e2 gAdd (eV 7) (eV 0)) (eIfE (tB (e2 gGt (eV 6) (eC (.int 0)))) (eSl (eV 1) (oSome (eV 6)) oNone) (eN gLst aNil)))))) sSkip)
def B_shown_with_rests_v2_l2 : M Fl := (sFor (iL (eF (eN gSortSet (aCons (eN gLst (aCons (eC (.int 0)) (aCons (eV 4) aNil))) aNil)))) (tgN 6) B_shown_with_rests_v2_l1)
def B_shown_with_rests_v2 : M Fl := (sSeq (sDrop (eCall F_need_both (aCons (eV 0) (aCons (eV 1) aNil))))
  (sSeq (sSetM 2 (eN gLst aNil))
  (sSeq (sIf (tB (eCall F_is_within (aCons (eV 0) (aCons (eV 1) aNil)))) (sApp 2 (eF (eN gList1 (aCons (eV 1) aNil)))) sSkip)
  (sSeq (sSet 3 (eCall F_hung_ahead (aCons (eV 0) (aCons (eV 1) aNil))))
  (sSeq (sSet 4 (eCall F_hung_behind (aCons (eV 0) (aCons (eV 1) aNil))))
  (sSeq (sFor (iL (eF (eN gSortSet (aCons (eN gLst (aCons (eC (.int 0)) (aCons (eV 3) aNil))) aNil)))) (tgN 5) B_shown_with_rests_v2_l2)
  (sSeq (sIf (tB (e2 gEq (eV 2) (eN gLst aNil))) (sRaise (Str.ofString "NoCover")) sSkip)
  (sRet (e2 gIx (eN gMinD (aCons (eLc [8] (iL (eV 2)) (tgN 8) tTrue (eN gTupD (aCons (eN gLen (aCons (eV 8) aNil)) (aCons (eV 8) aNil)))) aNil)) (eC (.int 1)))))))))))
def F_shown_with_rests_v2 : List D → FR := runF 9 B_shown_with_rests_v2
def B__law_stir : M Fl := (sSeq (sSet 2 (e2 gAdd (e2 gAdd (e2 gMod (eV 0) (e2 gPow (eC (.int 10)) (eC (.int 60)))) (e2 gMul (eC (.int 3)) (eV 1))) (eC (.int 1))))
  (sRet (e2 gMod (e2 gFdiv (e2 gMul (e2 gMul (eV 2) (e2 gAdd (eV 2) (e2 gMul (eC (.int 2)) (eV 1)))) (e2 gAdd (eV 2) (eC (.int 5)))) (eC (.int 7))) (e2 gPow (eC (.int 10)) (eC (.int 40))))))
def F__law_stir : List D → FR := runF 3 B__law_stir
def B__law_digit : M Fl := (sSeq (sIf (tB (e2 gGe (eV 0) (e2 gPow (eC (.int 10)) (eC (.int 18))))) (sRet (e2 gMod (e2 gMod (e2 gShr (eV 0) (e2 gMul (eC (.int 16)) (eV 1))) (eC (.int 65536))) (eV 2))) sSkip)
  (sRet (e2 gMod (eCall F__law_stir (aCons (eV 0) (aCons (eV 1) aNil))) (eV 2))))
def F__law_digit : List D → FR := runF 3 B__law_digit
def B__law_overlaid_l1 : M Fl := (sSet 5 (eF (e2 gAdd (eV 5) (eSl (eV 0) (oSome (e2 gSub (eN gLen (aCons (eV 0) aNil)) (e2 gIx (eV 4) (eCall F__law_digit (aCons (eV 1) (aCons (e2 gAdd (eV 2) (eV 6)) (aCons (eN gLen (aCons (eV 4) aNil)) aNil))))))) oNone))))
def B__law_overlaid : M Fl := (sSeq (sSet 4 (eLc [7] (iN gR2 (aCons (eC (.int 1)) (aCons (e2 gAdd (eN gLen (aCons (eV 0) aNil)) (eC (.int 1))) aNil))) (tgN 7) (tB (e2 gEq (eSl (eV 0) (oSome (eV 7)) oNone) (eSl (eV 0) oNone (oSome (e2 gSub (eN gLen (aCons (eV 0) aNil)) (eV 7)))))) (eV 7)))
  (sSeq (sSet 5 (eF (eN gList1 (aCons (eV 0) aNil))))
  (sSeq (sFor (iN gR1 (aCons (eV 3) aNil)) (tgN 6) B__law_overlaid_l1)
  (sRet (eV 5)))))
def F__law_overlaid : List D → FR := runF 8 B__law_overlaid
end Ov
namespace MV
open PySem PySem.Spec PyProof.Rows L2
def PostO (cf : Cf) (W : WX) (R : Rs) (Hs : Hp) (i : Nat) (D : Ends) : Res Fl → Prop
  | .ok (.rt d) env' => ∀ v Hs' σ' H' F' wf', Ex Hs Hs' → Rel cf R Hs' env' σ' H' F' wf' → Own cf.K (TH (rs Hs' R.H0)) H' (F' i) v d → D.rt v H'
  | .ok .nx env' => ∀ Hs' σ' H' F' wf', Ex Hs Hs' → Rel cf R Hs' env' σ' H' F' wf' → D.nx σ' H'
  | .ex x env' => ∀ Hs' σ' H' F' wf', Ex Hs Hs' → Rel cf R Hs' env' σ' H' F' wf' → W (cf.cv x) none σ' H'
  | _ => False
theorem PostO.mono {cf : Cf} {W : WX} {R : Rs} {i : Nat} {Hs Hs' : Hp} {D : Ends} (e : Ex Hs Hs') : ∀ {g : Res Fl}, PostO cf W R Hs i D g → PostO cf W R Hs' i D g
  | .ok (.rt d) _, h => fun v Hs2 σ' H' F' wf' e2 r o => h v Hs2 σ' H' F' wf' (e.trans e2) r o
  | .ex _ _, h => fun Hs2 σ' H' F' wf' e2 r => h Hs2 σ' H' F' wf' (e.trans e2) r
  | .ok .nx _, h => fun Hs2 σ' H' F' wf' e2 r => h Hs2 σ' H' F' wf' (e.trans e2) r
  | .ok .bk _, h => h.elim
  | .ok .ct _, h => h.elim
  | .stuck, h => h.elim
section
variable {X : Cx} {cf : Cf} {W : WX} {c : Cls} {n n1 n2 : Bool} {i j : Nat}
end
section
variable {P : Program} {w : World} {K : PySem.W.Frag} {mg : Str → Option Value} {base : Heap}
end
end MV
namespace MV
open PySem PySem.Spec PyProof.Rows L2
def PostB (cf : Cf) (W : WX) (R : Rs) (Hs : Hp) (j : Nat) (σ : L2.St) (p : Addr) (xs : List V) (F : Nat → List Addr) (wf : List Addr) (D : Ends) : Res Fl → Prop
  | .ok .nx env' => ∀ Hs' H', Ex Hs Hs' → Rel cf R Hs' env' σ H' F wf → H' p = some (.lst xs) → env'[j]? = some none → D.nx σ H'
  | .ok (.rt d) env' => ∀ v Hs' H', Ex Hs Hs' → Rel cf R Hs' env' σ H' F wf → Rp cf.K true (rs (rm H' wf) R.H0) v d → D.rt v H'
  | .ex x env' => ∀ Hs' H', Ex Hs Hs' → Rel cf R Hs' env' σ H' F wf → W (cf.cv x) none σ H'
  | _ => False
theorem PostB.mono {cf : Cf} {W : WX} {R : Rs} {Hs Hs' : Hp} {j : Nat} {σ : L2.St} {p : Addr} {xs : List V} {F : Nat → List Addr} {wf : List Addr} {D : Ends} (e : Ex Hs Hs') : ∀ {g : Res Fl}, PostB cf W R Hs j σ p xs F wf D g → PostB cf W R Hs' j σ p xs F wf D g
  | .ok .nx _, h => fun Hs2 H' e2 r => h Hs2 H' (e.trans e2) r
  | .ok (.rt d) _, h => fun v Hs2 H' e2 r => h v Hs2 H' (e.trans e2) r
  | .ex _ _, h => fun Hs2 H' e2 r => h Hs2 H' (e.trans e2) r
  | .ok .bk _, h => h.elim
  | .ok .ct _, h => h.elim
  | .stuck, h => h.elim
section
variable {cf : Cf} {R : Rs} {Hs H : Hp} {env : PEnv} {σ : L2.St} {F : Nat → List Addr} {wf : List Addr}
theorem Rel.drop (r : Rel cf R Hs env σ H F wf) {j : Nat} (hw : cf.kd j ≠ .W) : Rel cf R Hs (env.set j none) σ H F wf where
  len := by rw [List.length_set]; exact r.len
  exs := r.exs
  ex0 := r.ex0
  dom0 := r.dom0
  slot := fun i d h => by
    rcases get_set h with ⟨rfl, e, hl⟩ | ⟨ne, h⟩
    · cases e
    · exact r.slot i d h
  nod := r.nod
  dis := r.dis
  fdom := r.fdom
  uns := r.uns
  new := r.new
  volw := r.volw
  volb := r.volb
  wdom := r.wdom
  ior := fun p h => by
    obtain ⟨h1, h2, h3, d', h4⟩ := r.ior p h
    have ne : j ≠ 0 := fun e => by subst e; exact hw h3
    exact ⟨h1, h2, h3, d', by rw [List.getElem?_set_ne ne]; exact h4⟩
theorem Rel.any (r : Rel cf R Hs env σ H F wf) {j : Nat} {v : V} (hj : env[j]? = some none) (hw : cf.kd j ≠ .W) : Rel cf R Hs env (σ.set j (some v)) H F wf where
  len := by rw [List.length_set]; exact r.len
  exs := r.exs
  ex0 := r.ex0
  dom0 := r.dom0
  slot := fun i d h => by
    have ne : j ≠ i := fun e => by subst e; rw [hj] at h; cases h
    obtain ⟨w, h1, h2⟩ := r.slot i d h
    exact ⟨w, by rw [List.getElem?_set_ne ne]; exact h1, h2⟩
  nod := r.nod
  dis := r.dis
  fdom := r.fdom
  uns := r.uns
  new := r.new
  volw := r.volw
  volb := r.volb
  wdom := r.wdom
  ior := fun p h => by
    obtain ⟨h1, h2, h3, d', h4⟩ := r.ior p h
    have ne : j ≠ 0 := fun e => by subst e; exact hw h3
    exact ⟨by rw [List.getElem?_set_ne ne]; exact h1, h2, h3, d', h4⟩
end
section
variable {X : Cx} {cf : Cf} {W : WX} {c : Cls} {n n1 n2 : Bool} {i j : Nat}
end
end MV
namespace Ov
open PySem MV
end Ov
namespace MV
open PySem PySem.Spec PyProof.Rows L2
section
variable {cf : Cf} {R : Rs} {Hs : Hp} {env : PEnv} {σ : L2.St} {H : Hp} {F : Nat → List Addr} {wf : List Addr}
theorem Rel.ext {env1 : PEnv} {Hs1 H1 : Hp} (r : Rel cf R Hs env σ H F wf) (s1 : Stp cf wf env Hs H env1 Hs1 H1) (r1 : Rel cf R Hs1 env1 σ H1 F wf) {i : Nat} {p : Addr} {o' : HO} {v : V} {d0 d' : D} {Fn : List Addr} (hw : cf.kd i ≠ .W) (hp : p ∈ F i) (he : env1[i]? = some (some d0)) (hv : σ[i]? = some (some v))
    (hn : Fn.Nodup) (hnew : ∀ a ∈ Fn, H a = none ∧ H1 a ≠ none) (hs : SlotR cf.K R (rm Hs1 Fn) (upd H1 p o') (F i ++ Fn) (cf.kd i) v d') : Rel cf R (rm Hs1 Fn) (env1.set i (some d')) σ (upd H1 p o') (fun j => if j = i then F i ++ Fn else F j) wf ∧ Ex Hs (rm Hs1 Fn) := by
  have old : ∀ a, H a ≠ none → a ∉ Fn := fun a h m => h (hnew a m).1
  have exs : Ex Hs (rm Hs1 Fn) := fun a o h => by
    have : a ∉ Fn := old a (by rw [r.exs a o h]; exact fun z => by cases z)
    unfold rm
    rw [if_neg this]
    exact s1.ex a o h
  have sub : Ex (rm Hs1 Fn) Hs1 := rm_sub _ _
  have pS : Hs1 p = none := r1.uns i p hp
  have hu : ∀ a, H1 a ≠ none → upd H1 p o' a ≠ none := fun a h => by
    by_cases e : a = p
    · subst e; rw [upd_same]; exact fun z => by cases z
    · rw [upd_ne e]; exact h
  have memE : ∀ {j : Nat} {a : Addr}, a ∈ (if j = i then F i ++ Fn else F j) → a ∈ F j ∨ (j = i ∧ a ∈ Fn) := fun {j a} m => by
    by_cases e : j = i
    · subst e; rw [if_pos rfl] at m; exact (List.mem_append.mp m).imp id fun m => ⟨rfl, m⟩
    · rw [if_neg e] at m; exact .inl m
  refine ⟨?_, exs⟩
  constructor
  case len => rw [List.length_set]; exact r1.len
  case exs =>
    intro a o h
    have h := sub a o h
    rw [upd_ne (fun e => by subst e; rw [pS] at h; cases h)]
    exact r1.exs a o h
  case ex0 => exact fun a o h n => exs a o (r.ex0 a o h n)
  case dom0 => exact fun a h => hu a (r1.dom0 a h)
  case slot =>
    intro j d'' h
    rcases get_set h with ⟨rfl, e, hl⟩ | ⟨ne, h⟩
    · cases e
      exact ⟨v, hv, by rw [if_pos rfl]; exact hs⟩
    · obtain ⟨w, h1, h2⟩ := r1.slot j d'' h
      refine ⟨w, h1, ?_⟩
      rw [if_neg (Ne.symm ne)]
      have np : ∀ a ∈ F j, a ≠ p := fun a m e => by subst e; exact r.dis i j ne _ hp m
      by_cases hw : cf.kd j = .W
      · rw [hw] at h2 ⊢
        obtain ⟨p2, xs, ds, e1, e2, e3, e4, e5⟩ := h2
        exact ⟨p2, xs, ds, e1, e2, e3, by rw [upd_ne (np p2 (by rw [e3]; exact List.mem_singleton.mpr rfl))]; exact e4, e5⟩
      · have h' : env[j]? = some (some d'') := by rw [← s1.kp j hw]; exact h
        obtain ⟨w0, g1, g2⟩ := r.slot j d'' h'
        have ew : w0 = w := by rw [g1] at h1; cases h1; rfl
        subst ew
        have kp : ∀ a ∈ F j, ∀ o, H a = some o → upd H1 p o' a = some o := fun a m o ha => by
          rw [upd_ne (np a m)]; exact s1.keep a o (r.volb j hw a m) ha
        cases q : cf.kd j with
        | S => rw [q] at g2; exact Rp.mono exs g2
        | N => rw [q] at g2; exact Rp.mono (rs_mono exs) g2
        | Q => rw [q] at g2; exact Rp.mono exs g2
        | P => rw [q] at g2; exact Own.keep (th_mono (rs_mono exs)) g2 kp
        | M => rw [q] at g2; exact ⟨Own.keep (rs_mono exs) g2.1 kp, g2.2⟩
        | W => exact absurd q hw
  case nod =>
    intro j
    by_cases e : j = i
    · rw [if_pos e]
      exact List.nodup_append.mpr ⟨r.nod i, hn, fun a m b m2 e => by subst e; exact r.fdom i a m (hnew a m2).1⟩
    · rw [if_neg e]; exact r.nod j
  case dis =>
    intro j k ne a m m2
    rcases memE m with m | ⟨e, m⟩
    · rcases memE m2 with m2 | ⟨e2, m2⟩
      · exact r.dis j k ne a m m2
      · exact r.fdom j a m (hnew a m2).1
    · rcases memE m2 with m2 | ⟨e2, m2⟩
      · exact r.fdom k a m2 (hnew a m).1
      · exact ne (e.trans e2.symm)
  case fdom =>
    intro j a m
    rcases memE m with m | ⟨e, m⟩
    · exact hu a (r1.fdom j a m)
    · exact hu a (hnew a m).2
  case uns =>
    intro j a m
    rcases memE m with m | ⟨e, m⟩
    · unfold rm
      split
      · rfl
      · exact r1.uns j a m
    · unfold rm; rw [if_pos m]
  case new =>
    intro j a m
    rcases memE m with m | ⟨e, m⟩
    · exact r.new j a m
    · refine .inr ?_
      cases q : R.H0 a with
      | none => rfl
      | some o => exact absurd (hnew a m).1 (r.dom0 a (by rw [q]; exact fun z => by cases z))
  case volw =>
    intro j hk a m
    rcases memE m with m | ⟨e, m⟩
    · exact r.volw j hk a m
    · subst e; exact absurd hk hw
  case volb =>
    intro j hk a m z
    rcases memE m with m | ⟨e, m⟩
    · exact r.volb j hk a m z
    · exact (r.wdom a z).1 (hnew a m).1
  case wdom =>
    intro a m
    obtain ⟨g1, g2⟩ := r1.wdom a m
    refine ⟨hu a g1, ?_⟩
    unfold rm
    split
    · rfl
    · exact g2
  case ior =>
    intro q h
    obtain ⟨h1, h2, h3, d2, h4⟩ := r1.ior q h
    have ne : (0 : Nat) ≠ i := fun e => by subst e; exact hw h3
    exact ⟨h1, by rw [if_neg ne]; exact h2, h3, d2, by rw [List.getElem?_set_ne (Ne.symm ne)]; exact h4⟩
end
mutual
def D.tuo : D → Bool
  | .tup ds => tuoL ds
  | d => d.sc
def tuoL : List D → Bool
  | [] => true
  | d :: ds => D.tuo d && tuoL ds
end
mutual
theorem Rp.th {K : PySem.W.Frag} {G : Hp} : ∀ {v : V} {d : D}, Rp K true G v d → d.tuo = true → Rp K true (TH G) v d
  | _, _, .sc h, _ => .sc h
  | _, _, .tup h r, t => .tup (th_tup h) (RpL.th r (by rw [D.tuo] at t; exact t))
  | _, _, .lst h r, t => by rw [D.tuo] at t; · cases t
                            · intro _ z; cases z
  | _, _, .dic h l r, t => by rw [D.tuo] at t; · cases t
                              · intro _ z; cases z
  | _, _, .dit h l r, t => by rw [D.tuo] at t; · cases t
                              · intro _ z; cases z
  | _, _, .exc h, t => by rw [D.tuo] at t; · cases t
                          · intro _ z; cases z
theorem RpL.th {K : PySem.W.Frag} {G : Hp} : ∀ {vs : List V} {ds : List D}, RpL K true G vs ds → tuoL ds = true → RpL K true (TH G) vs ds
  | _, _, .nil, _ => .nil
  | _, _, .cons h r, t => by
    rw [tuoL, Bool.and_eq_true] at t
    exact .cons (Rp.th h t.1) (RpL.th r t.2)
end
section
variable {X : Cx} {cf : Cf} {W : WX} {c : Cls} {n n1 n2 : Bool}
end
end MV
namespace MV
open PySem PySem.Spec PyProof.Rows L2
section
variable {X : Cx} {cf : Cf} {W : WX} {c : Cls} {n n1 n2 : Bool}
end
section
variable {X : Cx} {P : Program} {w : World} {K : PySem.W.Frag} {tg : Expr} {d : Addr} {o : Obj} {es : Array DictEntry} {ep : Nat}
end
end MV
namespace MV
open PySem PySem.Spec PyProof.Rows L2
section
variable {K : PySem.W.Frag} {G G' : Hp} {p : Addr} {kvs : List (List Key × V)}
structure Swp (G G' : Hp) (p : Addr) (kvs : List (List Key × V)) : Prop where
  a : Rd G p (.dT kvs)
  b : Rd G' p (.dT kvs)
  off : ∀ q, q ≠ p → G' q = G q
theorem Swp.ne {q : Addr} {o : HO} (s : Swp G G' p kvs) (h : G q = some o) (n1 : o ≠ .dT kvs) (n2 : ∀ ob, o ≠ .frz ob (.dT kvs)) : q ≠ p := fun e => by
  subst e
  rcases s.a with z | ⟨ob, z⟩
  · rw [z] at h; cases h; exact n1 rfl
  · rw [z] at h; cases h; exact n2 ob rfl
theorem Swp.rs {B : Hp} (s : Swp G G' p kvs) (h : B p = none) : Swp (rs G B) (rs G' B) p kvs := by
  refine ⟨?_, ?_, fun q n => ?_⟩
  · unfold Rd; rw [rs_none h]; exact s.a
  · unfold Rd; rw [rs_none h]; exact s.b
  · cases z : B q with
    | none => rw [rs_none z, rs_none z]; exact s.off q n
    | some u => rw [rs_some z, rs_some z]
theorem swp_sql {x : Bool} {a : Addr} {xs : List V} (s : Swp G G' p kvs) (h : SqLx K x G a xs) : SqLx K x G' a xs := by
  cases x with
  | true =>
    have h : G a = some (.lst xs) := h
    show G' a = some (.lst xs)
    rw [s.off a (s.ne h (fun z => by cases z) fun _ z => by cases z)]; exact h
  | false =>
    rcases h with (h | ⟨o, h⟩) | h
    · exact .inl (.inl (by rw [s.off a (s.ne h (fun z => by cases z) fun _ z => by cases z)]; exact h))
    · exact .inl (.inr ⟨o, by rw [s.off a (s.ne h (fun z => by cases z) fun _ z => by cases z)]; exact h⟩)
    · exact .inr h
theorem swp_sqt {x : Bool} {a : Addr} {xs : List V} (s : Swp G G' p kvs) (h : SqTx K x G a xs) : SqTx K x G' a xs := by
  cases x with
  | true =>
    have h : G a = some (.tup xs) := h
    show G' a = some (.tup xs)
    rw [s.off a (s.ne h (fun z => by cases z) fun _ z => by cases z)]; exact h
  | false =>
    rcases h with (h | ⟨o, h⟩) | h
    · exact .inl (.inl (by rw [s.off a (s.ne h (fun z => by cases z) fun _ z => by cases z)]; exact h))
    · exact .inl (.inr ⟨o, by rw [s.off a (s.ne h (fun z => by cases z) fun _ z => by cases z)]; exact h⟩)
    · exact .inr h
theorem swp_dqk {x : Bool} {a : Addr} {ks : List (Key × V)} (s : Swp G G' p kvs) (h : DqK x G a ks) : DqK x G' a ks := by
  cases x with
  | true =>
    have h : G a = some (.dK ks) := h
    show G' a = some (.dK ks)
    rw [s.off a (s.ne h (fun z => by cases z) fun _ z => by cases z)]; exact h
  | false =>
    obtain ⟨o, h⟩ := h
    exact ⟨o, by rw [s.off a (s.ne h (fun z => by cases z) fun _ z => by cases z)]; exact h⟩
theorem swp_rd {a : Addr} {ks : List (List Key × V)} (s : Swp G G' p kvs) (h : Rd G a (.dT ks)) : Rd G' a (.dT ks) := by
  by_cases e : a = p
  · subst e
    have : ks = kvs := by
      rcases s.a with z | ⟨ob, z⟩ <;> rcases h with h | ⟨ob2, h⟩ <;> rw [z] at h <;> cases h <;> rfl
    rw [this]; exact s.b
  · unfold Rd; rw [s.off a e]; exact h
theorem swp_exh {a : Addr} {c : Value} (s : Swp G G' p kvs) (h : G a = some (ExH c a)) : G' a = some (ExH c a) := by
  rw [s.off a (s.ne h (fun z => by cases z) fun _ z => by cases z)]; exact h
mutual
theorem Rp.swp {x : Bool} (s : Swp G G' p kvs) : ∀ {v : V} {d : D}, Rp K x G v d → Rp K x G' v d
  | _, _, .sc h => .sc h
  | _, _, .lst h r => .lst (swp_sql s h) (RpL.swp s r)
  | _, _, .tup h r => .tup (swp_sqt s h) (RpL.swp s r)
  | _, _, .dic h l r => .dic (swp_dqk s h) l (RpL.swp s r)
  | _, _, .dit h l r => .dit (swp_rd s h) l (RpL.swp s r)
  | _, _, .exc h => .exc (swp_exh s h)
theorem RpL.swp {x : Bool} (s : Swp G G' p kvs) : ∀ {vs : List V} {ds : List D}, RpL K x G vs ds → RpL K x G' vs ds
  | _, _, .nil => .nil
  | _, _, .cons h r => .cons (Rp.swp s h) (RpL.swp s r)
end
end
mutual
theorem Own.keepR {K : PySem.W.Frag} {Hn Hn' H H' : Hp} (en : ∀ v d, Rp K true Hn v d → Rp K true Hn' v d) : ∀ {F : List Addr} {v : V} {d : D}, Own K Hn H F v d → (∀ a ∈ F, ∀ o, H a = some o → H' a = some o) → Own K Hn' H' F v d
  | _, _, _, .leaf h, _ => .leaf (en _ _ h)
  | _, _, _, .lst h r, e => .lst (e _ List.mem_cons_self _ h) (OwnL.keepR en r fun a m => e a (List.mem_cons_of_mem _ m))
  | _, _, _, .tup h r, e => .tup (e _ List.mem_cons_self _ h) (OwnL.keepR en r fun a m => e a (List.mem_cons_of_mem _ m))
  | _, _, _, .dic h l r, e => .dic (e _ List.mem_cons_self _ h) l (OwnL.keepR en r fun a m => e a (List.mem_cons_of_mem _ m))
  | _, _, _, .dit h l r, e => .dit (e _ List.mem_cons_self _ h) l (OwnL.keepR en r fun a m => e a (List.mem_cons_of_mem _ m))
theorem OwnL.keepR {K : PySem.W.Frag} {Hn Hn' H H' : Hp} (en : ∀ v d, Rp K true Hn v d → Rp K true Hn' v d) : ∀ {F : List Addr} {vs : List V} {ds : List D}, OwnL K Hn H F vs ds → (∀ a ∈ F, ∀ o, H a = some o → H' a = some o) → OwnL K Hn' H' F vs ds
  | _, _, _, .nil, _ => .nil
  | _, _, _, .cons h r, e => .cons (Own.keepR en h fun a m => e a (List.mem_append_left _ m)) (OwnL.keepR en r fun a m => e a (List.mem_append_right _ m))
end
theorem th_swp {G G' : Hp} {p : Addr} {kvs : List (List Key × V)} (s : Swp G G' p kvs) : Ex (TH G) (TH G') := fun a o h => by
  obtain ⟨xs, rfl, q⟩ := th_some h
  exact th_tup (by rw [s.off a (s.ne q (fun z => by cases z) fun _ z => by cases z)]; exact q)
section
variable {cf : Cf} {R : Rs} {Hs H : Hp} {env : PEnv} {σ : L2.St} {F : Nat → List Addr} {wf : List Addr} {p : Addr} {kvs : List (List Key × V)}
theorem swp_upd {o : HO} (a : Rd Hs p (.dT kvs)) (b : o = .dT kvs ∨ ∃ ob, o = .frz ob (.dT kvs)) : Swp Hs (upd Hs p o) p kvs :=
  ⟨a, by rcases b with rfl | ⟨ob, rfl⟩; · exact .inl upd_same
         · exact .inr ⟨ob, upd_same⟩, fun q n => upd_ne n⟩
theorem Rel.swp (r : Rel cf R Hs env σ H F wf) (a : Rd Hs p (.dT kvs)) (h0 : R.H0 p = none) {o : HO} (b : o = .dT kvs ∨ ∃ ob, o = .frz ob (.dT kvs)) : Rel cf R (upd Hs p o) env σ (upd H p o) F wf := by
  have s := swp_upd a b
  have pS : Hs p ≠ none := by rcases a with z | ⟨_, z⟩ <;> rw [z] <;> exact fun z => by cases z
  have nF : ∀ {i : Nat} {x : Addr}, x ∈ F i → x ≠ p := fun {i x} m e => by subst e; exact pS (r.uns i x m)
  have nW : ∀ {x : Addr}, x ∈ wf → x ≠ p := fun {x} m e => by subst e; exact pS (r.wdom x m).2
  have own : ∀ (i : Nat), ∀ x ∈ F i, ∀ o', H x = some o' → upd H p o x = some o' := fun i x m o' e => by rw [upd_ne (nF m)]; exact e
  refine
    { len := r.len
      exs := fun x o' h => by
        by_cases q : x = p
        · subst q; rw [upd_same] at h ⊢; exact h
        · rw [upd_ne q] at h ⊢; exact r.exs x o' h
      ex0 := fun x o' h n => by
        have q : x ≠ p := fun e => by subst e; rw [h0] at h; cases h
        rw [upd_ne q]; exact r.ex0 x o' h n
      dom0 := fun x h => by
        by_cases q : x = p
        · subst q; rw [upd_same]; exact fun z => by cases z
        · rw [upd_ne q]; exact r.dom0 x h
      slot := fun i d h => ?_
      nod := r.nod
      dis := r.dis
      fdom := fun i x m => by rw [upd_ne (nF m)]; exact r.fdom i x m
      uns := fun i x m => by rw [upd_ne (nF m)]; exact r.uns i x m
      new := r.new
      volw := r.volw
      volb := r.volb
      wdom := fun x m => by rw [upd_ne (nW m), upd_ne (nW m)]; exact r.wdom x m
      ior := r.ior }
  obtain ⟨v, h1, h2⟩ := r.slot i d h
  refine ⟨v, h1, ?_⟩
  have sr := s.rs (B := R.H0) h0
  cases q : cf.kd i with
  | S => rw [q] at h2; exact h2.swp s
  | Q => rw [q] at h2; exact h2.swp s
  | N => rw [q] at h2; exact h2.swp sr
  | P => rw [q] at h2; exact h2.keep (th_swp sr) (own i)
  | M => rw [q] at h2; exact ⟨h2.1.keepR (fun v d h => h.swp sr) (own i), h2.2⟩
  | W =>
    rw [q] at h2
    obtain ⟨p', xs, ds, e1, e2, e3, e4, e5⟩ := h2
    exact ⟨p', xs, ds, e1, e2, e3, own i p' (by rw [e3]; exact List.mem_cons_self) _ e4, e5⟩
end
def nox : Res Fl → Res Fl
  | .ex _ _ => .stuck
  | r => r
section
variable {X : Cx} {cf : Cf} {W : WX} {c : Cls} {n n1 n2 : Bool}
def Lk (D : Ends) (p : Addr) (z u : HO) : Ends := ⟨fun σ' H' => H' p = some z ∧ D.nx σ' (upd H' p u), fun v H' => H' p = some z ∧ D.rt v (upd H' p u), fun σ' H' => H' p = some z ∧ D.bk σ' (upd H' p u), fun σ' H' => H' p = some z ∧ D.ct σ' (upd H' p u)⟩
theorem Post.lk {R : Rs} {Hs : Hp} {D : Ends} {p : Addr} {kvs : List (List Key × V)} {od : Obj} {g : Res Fl} (hu : Hs p = some (.dT kvs)) (h0 : R.H0 p = none) (hp : Post cf W R Hs D (nox g)) : Post cf W R (upd Hs p (.frz od (.dT kvs))) (Lk D p (.frz od (.dT kvs)) (.dT kvs)) g := by
  have ex : ∀ {Hs' : Hp}, Ex (upd Hs p (.frz od (.dT kvs))) Hs' → Hs' p = some (.frz od (.dT kvs)) ∧ Ex Hs (upd Hs' p (.dT kvs)) := fun {Hs'} e => ⟨e _ _ upd_same, fun a o h => by
    by_cases q : a = p
    · subst q; rw [upd_same]; rw [hu] at h; exact h
    · rw [upd_ne q]; exact e a o (by rw [upd_ne q]; exact h)⟩
  have th : ∀ {Hs' H' : Hp} {env' : PEnv} {σ' : L2.St} {F' : Nat → List Addr} {wf' : List Addr}, Ex (upd Hs p (.frz od (.dT kvs))) Hs' → Rel cf R Hs' env' σ' H' F' wf' → H' p = some (.frz od (.dT kvs)) ∧ Rel cf R (upd Hs' p (.dT kvs)) env' σ' (upd H' p (.dT kvs)) F' wf' := fun {Hs' H' env' σ' F' wf'} e r' => by
    obtain ⟨e1, e2⟩ := ex e
    exact ⟨r'.exs _ _ e1, r'.swp (.inr ⟨od, e1⟩) h0 (.inl rfl)⟩
  cases g with
  | stuck => exact hp
  | ex x e => exact hp.elim
  | ok f env' =>
    cases f with
    | nx => exact fun Hs' σ' H' F' wf' e r' => ⟨(th e r').1, hp _ σ' _ F' wf' (ex e).2 (th e r').2⟩
    | bk => exact fun Hs' σ' H' F' wf' e r' => ⟨(th e r').1, hp _ σ' _ F' wf' (ex e).2 (th e r').2⟩
    | ct => exact fun Hs' σ' H' F' wf' e r' => ⟨(th e r').1, hp _ σ' _ F' wf' (ex e).2 (th e r').2⟩
    | rt d =>
      intro v Hs' σ' H' F' wf' e r' pv
      obtain ⟨q1, q2⟩ := th e r'
      refine ⟨q1, hp v _ σ' _ F' wf' (ex e).2 q2 ?_⟩
      have nw : p ∉ wf' := fun m => by
        have := (r'.wdom p m).2
        rw [(ex e).1] at this
        cases this
      have s1 : Rd (rm H' wf') p (.dT kvs) := by unfold Rd rm; rw [if_neg nw]; exact .inr ⟨od, q1⟩
      have s2 : Rd (rm (upd H' p (.dT kvs)) wf') p (.dT kvs) := by unfold Rd rm; rw [if_neg nw, upd_same]; exact .inl rfl
      have s : Swp (rm H' wf') (rm (upd H' p (.dT kvs)) wf') p kvs := ⟨s1, s2, fun q n => by
        unfold rm
        split
        · rfl
        · exact upd_ne n⟩
      exact pv.swp (s.rs (B := R.H0) h0)
end
end MV
namespace Ov
open PySem MV
end Ov
namespace Ov
open PySem (Str)
open MV
def Lt (z : Str) (n : Nat) : Prop := z.cps.size = n ∧ ∀ c ∈ z.cps.toList, 97 ≤ c ∧ c ≤ 122
theorem lt_all : Lt (Str.ofString "abcdefghijklmnopqrstuvwxyz") 26 := ⟨by decide +kernel, by decide +kernel⟩
theorem Lt.len {z : Str} {n : Nat} (h : Lt z n) : z.length = n := h.1
theorem Lt.at {z : Str} {n r : Nat} (h : Lt z n) (hr : r < n) : ∃ c, L2.atI z.cps.toList (r : Int) = some c ∧ Sg ⟨#[c]⟩ := by
  rw [atI_eq]
  have hl : r < z.cps.toList.length := by rw [Array.length_toList, h.1]; exact hr
  rw [List.getElem?_eq_getElem hl]
  obtain ⟨h1, h2⟩ := h.2 _ (List.getElem_mem hl)
  exact ⟨_, rfl, _, rfl, h1, h2⟩
end Ov
namespace Ov
open PySem (Str)
open MV
end Ov
namespace Ov
open PySem (Str)
open MV
end Ov
namespace Ov
open PySem (Str)
open MV
theorem sg_in {x : Str} (h : Sg x) : x.length = 1 ∧ gNotIn (.str x) (.str (Str.ofString "abcdefghijklmnopqrstuvwxyz")) = some (.bl false) := by
  obtain ⟨c, rfl, h1, h2⟩ := h
  refine ⟨rfl, ?_⟩
  have : ∀ c : Nat, 97 ≤ c → c ≤ 122 → c ∈ (Str.ofString "abcdefghijklmnopqrstuvwxyz").cps.toList := by
    have : ∀ k : Fin 26, (97 + k.val) ∈ (Str.ofString "abcdefghijklmnopqrstuvwxyz").cps.toList := by decide +kernel
    intro c h1 h2
    have := this ⟨c - 97, by omega⟩
    simpa [show 97 + (c - 97) = c by omega] using this
  have := this c h1 h2
  show (inOk _ _).map _ = _
  unfold inOk
  simp [this]
theorem need_signs_val {t : List Str} (ht : Tx t) (hl : t.length ≤ LIM) : F_need_signs [dT t] = .ok .non (dT t) := by
  have h1 := lc_pure (is := [1]) (tg := tgN 1) (t := tOr2 (tB (e2 gNe (eN gLen (aCons (eV 1) aNil)) (eC (.int 1)))) (tB (e2 gNotIn (eV 1) (eC (.str (Str.ofString "abcdefghijklmnopqrstuvwxyz")))))) (fe := eV 1) (e := [some (dT t), none]) (φ := D.str) (p := fun _ => false) (g := D.str) t [] (by simpa using hl)
    (fun x hx => ⟨_, [some (dT t), some (.str x)], rfl, by
      obtain ⟨q1, q2⟩ := sg_in (ht x hx)
      have l1 : (1 : Nat) ≤ LIM := by decide
      simp [q1, l1, q2], (fun h => by cases h), fun _ => rfl⟩)
  rw [filter_no] at h1
  simp only [F_need_signs, r_runF, B_need_signs]
  simp [h1, hsz0]
theorem need_word_val {w : List Str} (hw : Tx w) (h0 : w ≠ []) : F_need_word [dT w] = .ok .non (dT w) := by
  simp only [F_need_word, r_runF, B_need_word]
  simp [hsz0, gEq_nT hw.ok, h0]
def lies (t w : List Str) : List Nat := (List.range (t.length + 1 - w.length)).filter fun p => decide ((t.drop p).take w.length = w)
theorem lies_lt {t w : List Str} {p : Nat} (h : p ∈ lies t w) : p + w.length ≤ t.length := by
  unfold lies at h
  rw [List.mem_filter, List.mem_range] at h
  omega
theorem laid_at_val {t w : List Str} (ht : Tx t) (hw : Tx w) (hl : t.length ≤ 1000) (hl2 : w.length ≤ 1000) : F_laid_at [dT t, dT w] = .ok (dN (lies t w)) (dT t) := by
  have hs : smallI ((t.length : Int) - (w.length : Int) + 1) = true := small_of (by omega) (by omega)
  have h1 := lc_nat (is := [3]) (tg := tgN 3) (t := tB (e2 gEq (eSl (eV 0) (oSome (eV 3)) (oSome (e2 gAdd (eV 3) (eV 2)))) (eV 1))) (fe := eV 3) (e := [some (dT t), some (dT w), some (.int w.length), none]) (fun p => decide ((t.drop p).take w.length = w)) (fun k => .int (k : Int)) (List.range (t.length + 1 - w.length)) (by rw [List.length_range]; show _ ≤ 100000; omega)
    (fun k hk => by
      refine ⟨_, [some (dT t), some (dT w), some (.int w.length), some (.int k)], rfl, ?_, fun _ => ⟨_, rfl, rfl⟩, fun _ => rfl⟩
      have := gEq_dT ((ht.drop k).take w.length).ok hw.ok
      simp [cutA_map, cutA_mid2, this, -List.map_take, -List.map_drop])
  have e1 : ((t.length : Int) - (w.length : Int) + 1).toNat = t.length + 1 - w.length := by omega
  simp only [F_laid_at, r_runF, B_laid_at]
  simp [hs, rng0, e1, h1, lies]
end Ov
namespace Ov
open PySem (Str PyData)
open MV
end Ov
namespace Ov
open PySem (Str)
open MV
section
variable {α : Type} [DecidableEq α]
def isB (t : List α) (n k : Nat) : Prop := k < n ∧ n ≤ t.length ∧ ∀ j, j < k → t[j]? = t[n - k + j]?
def isG (t : List α) (n g : Nat) : Prop := isB t n g ∧ ∀ k, isB t n k → k ≤ g
variable {t : List α} {n k m g : Nat}
theorem isB_down (h : isB t n k) (h2 : isB t n m) (hl : m < k) : isB t k m := by
  obtain ⟨a1, a2, a3⟩ := h
  obtain ⟨b1, b2, b3⟩ := h2
  refine ⟨hl, by omega, fun j hj => ?_⟩
  rw [b3 j hj, a3 (k - m + j) (by omega)]
  congr 1; omega
end
end Ov
namespace Ov
open PySem (Str)
open MV
theorem dN_at {l : List Nat} {k : Nat} (h : k < l.length) : L2.atI (l.map fun k : Nat => D.int (k : Int)) (k : Int) = some (.int (l[k] : Nat)) := by
  rw [atI_eq, List.getElem?_map, List.getElem?_eq_getElem h]; rfl
def Gs (t : List Str) (G : List Nat) (i : Nat) : Prop := G.length = i ∧ ∀ m, m < i → ∃ g, G[m]? = some g ∧ isG t (m + 1) g
theorem Gs.at {t : List Str} {G : List Nat} {i m : Nat} (h : Gs t G i) (hm : m < i) : ∃ g : Nat, L2.atI (G.map fun k : Nat => D.int (k : Int)) (m : Int) = some (.int (g : Nat)) ∧ isG t (m + 1) g := by
  obtain ⟨g, g1, g2⟩ := h.2 m hm
  have hgl : m < G.length := by rw [h.1]; exact hm
  refine ⟨g, ?_, g2⟩
  rw [dN_at hgl]
  rw [List.getElem?_eq_getElem hgl] at g1; rw [Option.some.inj g1]
theorem gNe_dT_self {t : List Str} (ht : Tx t) : gNe (dT t) (dT t) = some (.bl false) := by rw [gNe_dT ht.ok ht.ok]; simp
end Ov
namespace Ov
open PySem (Str PyData)
open MV
theorem for_cells {b : M Fl} {m : Nat} {q : D} (h : ∀ (c : Int) (xs : List (Option D)), xs.length = m → ∃ ys, ys.length = m ∧ b (some q :: some (.int c) :: xs) = .ok .nx (some q :: some (.int c) :: ys)) :
    ∀ (cs : List Int) (x1 : Option D) (xs : List (Option D)), xs.length = m → ∃ y1 ys, ys.length = m ∧ sForL (tgN 1) b (cs.map D.int) (some q :: x1 :: xs) = .ok .nx (some q :: y1 :: ys)
  | [], x1, xs, hx => ⟨x1, xs, hx, rfl⟩
  | c :: cs, x1, xs, hx => by
    obtain ⟨ys, h1, h2⟩ := h c xs hx
    obtain ⟨y1, zs, h3, h4⟩ := for_cells h cs (some (.int c)) ys h1
    refine ⟨y1, zs, h3, ?_⟩
    rw [List.map_cons, sForL, bnd_of_ok (r_tgN (i := 1)), List.set_cons_succ, List.set_cons_zero, bnd_of_ok h2]
    exact h4
def isSg (x : Str) : Bool := decide (x.length = 1) && x.cps.toList.all fun c => decide (97 ≤ c) && decide (c ≤ 122)
theorem isSg_iff {x : Str} : isSg x = true ↔ Sg x := by
  unfold isSg Sg
  rw [Bool.and_eq_true, decide_eq_true_iff]
  constructor
  · rintro ⟨h1, h2⟩
    obtain ⟨⟨l⟩⟩ := x
    have h1 : l.length = 1 := h1
    obtain ⟨c, rfl⟩ := List.length_eq_one_iff.mp h1
    simp at h2
    exact ⟨c, rfl, h2⟩
  · rintro ⟨c, rfl, h1, h2⟩
    exact ⟨rfl, by simp [h1, h2]⟩
def Gd (t : List Str) : Prop := ∀ x ∈ t, okS x ∧ x.length ≤ 100
theorem Tx.gd {t : List Str} (h : Tx t) : Gd t := fun x hx => ⟨(h x hx).ok, by obtain ⟨c, rfl, _⟩ := h x hx; show 1 ≤ 100; decide⟩
theorem Gd.ok {t : List Str} (h : Gd t) : ∀ x ∈ t, okS x := fun x hx => (h x hx).1
theorem Gd.append {t u : List Str} (h : Gd t) (h2 : Gd u) : Gd (t ++ u) := fun x hx => (List.mem_append.mp hx).elim (h x) (h2 x)
abbrev everyS : Str := Str.ofString "abcdefghijklmnopqrstuvwxyz"
theorem every_at {r : Nat} (hr : r < 26) : ∃ c, L2.atI everyS.cps.toList (r : Int) = some c ∧ Sg ⟨#[c]⟩ := lt_all.at hr
theorem strs_all (l : List Str) : ∀ x ∈ l.map D.str, x.sc = true := fun x h => by
  obtain ⟨y, _, rfl⟩ := List.mem_map.mp h
  rfl
end Ov
namespace Ov
open PySem (Str PyData)
open MV
def Lay (n : Nat) (d : D) : Prop := ∃ p, d.toP = some p ∧ p.canLay0 = true ∧ p.depth ≤ n
theorem lay_int {n : Nat} (i : Int) : Lay n (.int i) := ⟨.int i, rfl, by simp [PyData.canLay0], by simp [PyData.depth]⟩
theorem lay_str {n : Nat} {x : Str} (h : okS x) : Lay n (.str x) := ⟨.str x, rfl, by simp [PyData.canLay0]; exact h, by simp [PyData.depth]⟩
theorem lay_all {n : Nat} : ∀ {l : List D}, (∀ x ∈ l, Lay n x) → ∃ ps, toPs l = some ps ∧ PyData.canLayAll0 ps = true ∧ PyData.depthAll ps ≤ n
  | [], _ => ⟨[], rfl, by simp [PyData.canLayAll0], by simp [PyData.depthAll]⟩
  | d :: l, h => by
    obtain ⟨p, h1, h2, h3⟩ := h d List.mem_cons_self
    obtain ⟨ps, g1, g2, g3⟩ := lay_all (l := l) fun x hx => h x (List.mem_cons_of_mem _ hx)
    refine ⟨p :: ps, by rw [toPs, h1, g1], by rw [PyData.canLayAll0, h2, g2]; rfl, ?_⟩
    rw [PyData.depthAll]
    omega
theorem lay_lst {n : Nat} {l : List D} (h : ∀ x ∈ l, Lay n x) : Lay (n + 1) (.lst l) := by
  obtain ⟨ps, g1, g2, g3⟩ := lay_all h
  exact ⟨.list ps, toP_lst g1, by rw [PyData.canLay0]; exact g2, by rw [PyData.depth]; omega⟩
theorem lay_tup {n : Nat} {l : List D} (h : ∀ x ∈ l, Lay n x) : Lay (n + 1) (.tup l) := by
  obtain ⟨ps, g1, g2, g3⟩ := lay_all h
  exact ⟨.tuple ps, toP_tup g1, by rw [PyData.canLay0]; exact g2, by rw [PyData.depth]; omega⟩
theorem lay_dT {n : Nat} {t : List Str} (h : ∀ x ∈ t, okS x) : Lay (n + 1) (dT t) := lay_lst fun x hx => by
  obtain ⟨y, hy, rfl⟩ := List.mem_map.mp hx
  exact lay_str (h y hy)
theorem Lay.le {n m : Nat} (h : n ≤ m) {d : D} (l : Lay n d) : Lay m d := let ⟨p, a, b, c⟩ := l; ⟨p, a, b, Nat.le_trans c h⟩
theorem deq_self {d : D} (h : Lay 64 d) : deq d d = some true := by
  obtain ⟨p, h1, h2, h3⟩ := h
  cases d with
  | lst l =>
    show (match (D.lst l).toP, (D.lst l).toP with | some p, some q => if PySem.SeqAt.shaped p && PySem.SeqAt.shaped q then some (PyData.eqv p q) else none | _, _ => none) = _
    rw [h1]
    have : PySem.SeqAt.shaped p = true := by unfold PySem.SeqAt.shaped; rw [h2, decide_eq_true h3]; rfl
    simp only [this, Bool.and_self, if_true, PySem.SeqAt.eqv_refl p h2]
  | tup l =>
    show (match (D.tup l).toP, (D.tup l).toP with | some p, some q => if PySem.SeqAt.shaped p && PySem.SeqAt.shaped q then some (PyData.eqv p q) else none | _, _ => none) = _
    rw [h1]
    have : PySem.SeqAt.shaped p = true := by unfold PySem.SeqAt.shaped; rw [h2, decide_eq_true h3]; rfl
    simp only [this, Bool.and_self, if_true, PySem.SeqAt.eqv_refl p h2]
  | int i => simp [deq]
  | str i => simp [deq]
  | bl i => cases i <;> rfl
  | non => rfl
  | dic _ => cases h1
  | dit _ => cases h1
  | exc _ => cases h1
theorem gNe_self {d : D} (h : Lay 64 d) : gNe d d = some (.bl false) := by unfold gNe; rw [deq_self h]; rfl
theorem mulOk_small {i j : Int} (h1 : -(2 ^ 64) < i) (h2 : i < 2 ^ 64) : mulOk i j = true := by
  unfold mulOk
  rw [Bool.or_eq_true]
  exact .inl (decide_eq_true (.inl ⟨h1, h2⟩))
theorem letter_at {r : Nat} (hr : r < 26) : ∃ x, gIx (.str (Str.ofString "abcdefghijklmnopqrstuvwxyz")) (.int r) = some (.str x) ∧ Sg x := by
  obtain ⟨c, h1, h2⟩ := every_at hr
  refine ⟨⟨#[c]⟩, ?_, h2⟩
  have le : (Str.ofString "abcdefghijklmnopqrstuvwxyz").length ≤ LIM := by decide +kernel
  rw [gIx_s, if_pos le]
  have h1 : L2.atI (Str.ofString "abcdefghijklmnopqrstuvwxyz").cps.toList (r : Int) = some c := h1
  rw [h1]; rfl
def wayson (w : List Str) : List Nat := (List.range' 1 w.length).filter fun d => decide (w.drop d = w.take (w.length - d))
theorem wayson_le {w : List Str} {d : Nat} (h : d ∈ wayson w) : 1 ≤ d ∧ d ≤ w.length := by
  unfold wayson at h
  rw [List.mem_filter, List.mem_range'] at h
  obtain ⟨⟨i, h1, h2⟩, _⟩ := h
  omega
end Ov
namespace Ov
open PySem (Str PyData)
open MV
theorem str_at {l : List Str} (hl : Tx l) {r : Nat} (hr : r < l.length) : ∃ x, L2.atI (l.map D.str) (r : Int) = some (.str x) ∧ Sg x := by
  refine ⟨l[r], ?_, hl _ (List.getElem_mem hr)⟩
  rw [atI_eq, List.getElem?_map, List.getElem?_eq_getElem hr]; rfl
theorem mapA (a b : List Str) : a.map D.str ++ b.map D.str = (a ++ b).map D.str := by rw [List.map_append]
theorem gMul_dT {t : List Str} {k : Nat} (h : t.length * k ≤ 100000) (hk : k ≤ 100000) : gMul (dT t) (.int (k : Int)) = some (dT (List.replicate k t).flatten) := by
  show (if (t.map D.str).length * (k : Int).toNat ≤ LIM ∧ -(2 ^ 63) ≤ (k : Int) ∧ (k : Int) < 2 ^ 63 then some (D.lst (List.replicate (k : Int).toNat (t.map D.str)).flatten) else none) = _
  rw [if_pos ⟨by rw [List.length_map, Int.toNat_natCast]; exact h, by omega, by omega⟩, Int.toNat_natCast]
  show _ = some (D.lst ((List.replicate k t).flatten.map D.str))
  rw [List.map_flatten, List.map_replicate]
theorem tx_rep {t : List Str} (h : Tx t) (k : Nat) : Tx (List.replicate k t).flatten := fun x hx => by
  obtain ⟨l, hl, hx⟩ := List.mem_flatten.mp hx
  rw [List.eq_of_mem_replicate hl] at hx
  exact h x hx
theorem rep_len (t : List Str) (k : Nat) : (List.replicate k t).flatten.length = k * t.length := by
  rw [List.length_flatten, List.map_replicate, List.sum_replicate_nat]
theorem min_nat (a b : Nat) : gMin2 [.int (a : Int), .int (b : Int)] = some (.int ((min a b : Nat) : Int)) := by
  rw [gMin2_i]
  by_cases h : (b : Int) < a
  · rw [if_pos h, show min a b = b by omega]
  · rw [if_neg h, show min a b = a by omega]
theorem max_nat (a b : Nat) : gMax2 [.int (a : Int), .int (b : Int)] = some (.int ((max a b : Nat) : Int)) := by
  rw [gMax2_i]
  by_cases h : (b : Int) > a
  · rw [if_pos h, show max a b = b by omega]
  · rw [if_neg h, show max a b = a by omega]
end Ov
namespace Ov
open PySem (Str PyData)
open MV
def Dk (l : List Int) : Prop := ∃ x y z, l = [x, y, z] ∧ 0 ≤ y ∧ y < 2147483629 ∧ 0 ≤ z
theorem mulOk_right {i j : Int} (h1 : -(2 ^ 64) < j) (h2 : j < 2 ^ 64) : mulOk i j = true := by
  unfold mulOk
  rw [Bool.or_eq_true]
  exact .inl (decide_eq_true (.inr ⟨h1, h2⟩))
theorem deck_ok (c : Int) : ∃ h io, F__law_deck [.int c] = .ok (dI h) io ∧ Dk h := by
  have hp : L2.CPow 10 18 := ⟨by decide, by decide, by decide⟩
  have hsz : (3 : Nat) ≤ PySem.sizeLine := by decide
  refine ⟨[if c - 10 ^ 18 > 0 then c - 10 ^ 18 else 0, c % 2147483629, 0], .int c, ?_, _, _, _, rfl, Int.emod_nonneg _ (by decide), Int.emod_lt_of_pos _ (by decide), Int.le_refl _⟩
  simp [F__law_deck, r_runF, B__law_deck, hp, hsz]
theorem dtake_ok {h : List Int} {m : Int} (hh : Dk h) (hm : 0 < m) : ∃ (r : Nat) (h' : List Int), F__law_take_v3 [dI h, .int m] = .ok (.int r) (dI h') ∧ (r : Int) < m ∧ Dk h' := by
  obtain ⟨x, y, z, rfl, h1, h2, h3⟩ := hh
  have hd : divW 65536 = true := by decide +kernel
  by_cases hx : 0 < x
  · refine ⟨(x % 65536 % m).toNat, [x / 65536, y, z + 1], ?_, ?_, x / 65536, y, z + 1, rfl, h1, h2, by omega⟩
    · rw [Int.toNat_of_nonneg (Int.emod_nonneg _ (by omega))]
      simp [F__law_take_v3, r_runF, B__law_take_v3, L2.atI, L2.ixN, hx, hm, hd]
    · rw [Int.toNat_of_nonneg (Int.emod_nonneg _ (by omega))]; exact Int.emod_lt_of_pos _ hm
  · have m0 : mulOk 7919 (z + 1) = true := mulOk_small (by decide) (by decide)
    have m1 : mulOk (y + 7919 * (z + 1)) 48271 = true := mulOk_right (by decide) (by decide)
    generalize hA : (y + 7919 * (z + 1)) * 48271 % 2147483647 = A
    have a0 : 0 ≤ A := by rw [← hA]; exact Int.emod_nonneg _ (by decide)
    have a1 : A < 2147483647 := by rw [← hA]; exact Int.emod_lt_of_pos _ (by decide)
    have m2 : mulOk A A = true := mulOk_small (by omega) (by omega)
    generalize hB : A * A % 2147483629 = B
    have m3 : mulOk 40692 (z + 1) = true := mulOk_small (by decide) (by decide)
    have m4 : mulOk (B + 40692 * (z + 1)) 69621 = true := mulOk_right (by decide) (by decide)
    have d8 : L2.CDiv ((B + 40692 * (z + 1)) * 69621 % 2147483563) 8 := ⟨by decide, by decide⟩
    refine ⟨((B + 40692 * (z + 1)) * 69621 % 2147483563 / 8 % m).toNat, [x, y, z + 1], ?_, ?_, x, y, z + 1, rfl, h1, h2, by omega⟩
    · rw [Int.toNat_of_nonneg (Int.emod_nonneg _ (by omega))]
      simp [F__law_take_v3, r_runF, B__law_take_v3, L2.atI, L2.ixN, hx, hm, m0, m1, hA, m2, hB, m3, m4, d8]
    · rw [Int.toNat_of_nonneg (Int.emod_nonneg _ (by omega))]; exact Int.emod_lt_of_pos _ hm
theorem dk_nat {h : List Int} {m : Nat} (hh : Dk h) (hm : 0 < m) : ∃ (r : Nat) (h' : List Int), F__law_take_v3 [dI h, .int m] = .ok (.int r) (dI h') ∧ r < m ∧ Dk h' := by
  obtain ⟨r, h', a, b, c⟩ := dtake_ok (m := m) hh (by omega)
  exact ⟨r, h', a, by omega, c⟩
theorem dletters_ok {h : List Int} (hh : Dk h) : ∃ l h', F__law_letters_v3 [dI h] = .ok (dT l) (dI h') ∧ Tx l ∧ 0 < l.length ∧ l.length ≤ 26 ∧ Dk h' := by
  obtain ⟨r1, h1, a1, a2, a3⟩ := dk_nat (m := 26) hh (by decide)
  obtain ⟨r2, h2, b1, b2, b3⟩ := dk_nat (m := 12) a3 (by decide)
  obtain ⟨r3, h3, c1, c2, c3⟩ := dk_nat (m := 6) b3 (by decide)
  have a1 : F__law_take_v3 [dI h, .int 26] = .ok (.int r1) (dI h1) := a1
  have b1 : F__law_take_v3 [dI h1, .int 12] = .ok (.int r2) (dI h2) := b1
  have c1 : F__law_take_v3 [dI h2, .int 6] = .ok (.int r3) (dI h3) := c1
  obtain ⟨st, s1, s2⟩ : ∃ st : Nat, L2.atI [D.int 1, .int 3, .int 5, .int 7, .int 9, .int 11, .int 15, .int 17, .int 19, .int 21, .int 23, .int 25] (r2 : Int) = some (.int st) ∧ st ≤ 25 := by
    rw [atI_eq]
    match r2, b2 with
    | 0, _ => exact ⟨1, rfl, by decide⟩
    | 1, _ => exact ⟨3, rfl, by decide⟩
    | 2, _ => exact ⟨5, rfl, by decide⟩
    | 3, _ => exact ⟨7, rfl, by decide⟩
    | 4, _ => exact ⟨9, rfl, by decide⟩
    | 5, _ => exact ⟨11, rfl, by decide⟩
    | 6, _ => exact ⟨15, rfl, by decide⟩
    | 7, _ => exact ⟨17, rfl, by decide⟩
    | 8, _ => exact ⟨19, rfl, by decide⟩
    | 9, _ => exact ⟨21, rfl, by decide⟩
    | 10, _ => exact ⟨23, rfl, by decide⟩
    | 11, _ => exact ⟨25, rfl, by decide⟩
  obtain ⟨mn, t1, t2, t3⟩ : ∃ mn : Nat, L2.atI [D.int 2, .int 2, .int 3, .int 26, .int 26, .int 1] (r3 : Int) = some (.int mn) ∧ 0 < mn ∧ mn ≤ 26 := by
    rw [atI_eq]
    match r3, c2 with
    | 0, _ => exact ⟨2, rfl, by decide, by decide⟩
    | 1, _ => exact ⟨2, rfl, by decide, by decide⟩
    | 2, _ => exact ⟨3, rfl, by decide, by decide⟩
    | 3, _ => exact ⟨26, rfl, by decide, by decide⟩
    | 4, _ => exact ⟨26, rfl, by decide, by decide⟩
    | 5, _ => exact ⟨1, rfl, by decide, by decide⟩
  have hs : smallI (mn : Int) = true := small_of (by omega) (by omega)
  have le : (Str.ofString "abcdefghijklmnopqrstuvwxyz").length ≤ LIM := by decide +kernel
  have z12 : (12 : Nat) ≤ PySem.sizeLine := by decide
  have z6 : (6 : Nat) ≤ PySem.sizeLine := by decide
  obtain ⟨acc, e', g1, t, rfl, rfl, q1, q2⟩ := lc_inv (is := [5]) (tg := tgN 5) (t := tTrue) (fe := e2 gIx (eV 1) (e2 gMod (e2 gAdd (eV 2) (e2 gMul (eV 3) (eV 5))) (eC (.int 26)))) (ds := rngD 0 mn)
    (fun i acc e => ∃ t, acc = t.map .str ∧ e = [some (dI h3), some (.str (Str.ofString "abcdefghijklmnopqrstuvwxyz")), some (.int r1), some (.int st), some (.int mn), none] ∧ Tx t ∧ t.length = i)
    [] [some (dI h3), some (.str (Str.ofString "abcdefghijklmnopqrstuvwxyz")), some (.int r1), some (.int st), some (.int mn), none] ⟨[], rfl, rfl, (fun _ hx => by cases hx), rfl⟩ (by rw [rngD_len]; show 0 + mn ≤ 100000; omega)
    (fun i d acc e hd hi => by
      obtain ⟨t, rfl, rfl, q1, q2⟩ := hi
      obtain ⟨hi, rfl⟩ := rng0_get hd
      have m1 : mulOk (st : Int) (i : Int) = true := mulOk_small (by omega) (by omega)
      obtain ⟨x, x1, x2⟩ := letter_at (r := (r1 + st * i) % 26) (Nat.mod_lt _ (by decide))
      have e1 : ((r1 : Int) + (st : Int) * (i : Int)) % 26 = (((r1 + st * i) % 26 : Nat) : Int) := by
        rw [Int.natCast_emod]; simp
      refine ⟨_, _, true, rfl, rfl, fun _ => ⟨.str x, [some (dI h3), some (.str (Str.ofString "abcdefghijklmnopqrstuvwxyz")), some (.int r1), some (.int st), some (.int mn), some (.int i)], ?_, t ++ [x], by simp, rfl, q1.append (fun y hy => by rw [List.mem_singleton.mp hy]; exact x2), by simp [q2]⟩, fun h => by cases h⟩
      simp [m1, e1, -gIx_s, x1, -Int.natCast_emod])
  rw [rngD_len] at q2
  refine ⟨t, h3, ?_, q1, by omega, by omega, c3⟩
  simp only [F__law_letters_v3, r_runF, B__law_letters_v3]
  simp [a1, b1, c1, s1, t1, hs, g1, z12, z6, List.all_map]
theorem dsigns_ok {l : List Str} (hl : Tx l) (h0 : 0 < l.length) {h : List Int} (hh : Dk h) {m : Nat} (hm : m ≤ 1000) : ∃ t h', F__law_signs_v3 [dI h, dT l, .int m] = .ok (dT t) (dI h') ∧ Tx t ∧ t.length = m ∧ Dk h' := by
  obtain ⟨acc, e', h1, ⟨t, h', rfl, rfl, q1, q2, q3⟩⟩ := lc_inv (is := [3]) (tg := tgN 3) (t := tTrue) (fe := e2 gIx (eV 1) (eCallW F__law_take_v3 0 (aCons (eN gLen (aCons (eV 1) aNil)) aNil))) (ds := rngD 0 m)
    (fun i acc e => ∃ t h', acc = t.map .str ∧ e = [some (dI h'), some (dT l), some (.int m), none] ∧ Tx t ∧ t.length = i ∧ Dk h')
    [] [some (dI h), some (dT l), some (.int m), none] ⟨[], h, rfl, rfl, (fun _ hx => by cases hx), rfl, hh⟩ (by rw [rngD_len]; show 0 + m ≤ 100000; omega)
    (fun i d acc e hd hi => by
      obtain ⟨t, h', rfl, rfl, q1, q2, q3⟩ := hi
      obtain ⟨r, h2, t1, t2, t3⟩ := dk_nat (m := l.length) q3 h0
      obtain ⟨x, x1, x2⟩ := str_at hl t2
      refine ⟨_, _, true, rfl, rfl, fun _ => ⟨.str x, [some (dI h2), some (dT l), some (.int m), some d], ?_, t ++ [x], h2, by simp, rfl, q1.append (fun y hy => by rw [List.mem_singleton.mp hy]; exact x2), by simp [q2], t3⟩, fun h => by cases h⟩
      simp [t1, x1, List.all_map])
  rw [rngD_len] at q2
  refine ⟨t, h', ?_, q1, q2, q3⟩
  have hs : smallI (m : Int) = true := small_of (by omega) (by omega)
  simp only [F__law_signs_v3, r_runF, B__law_signs_v3]
  simp [hs, h1, List.all_map]
theorem dword_ok {l : List Str} (hl : Tx l) (h0 : 0 < l.length) {most : Nat} (hm : 0 < most) (hm2 : most ≤ 100) {h : List Int} (hh : Dk h) : ∃ w h', F__law_word_v4 [dI h, dT l, .int most] = .ok (dT w) (dI h') ∧ Tx w ∧ 0 < w.length ∧ w.length ≤ 4 * most + 2 ∧ Dk h' := by
  obtain ⟨r1, h1, a1, a2, a3⟩ := dk_nat (m := 4) hh (by decide)
  obtain ⟨r2, h2, b1, b2, b3⟩ := dk_nat (m := most) a3 hm
  obtain ⟨one, h3, c1, c2, c3, c4⟩ := dsigns_ok hl h0 b3 (m := 1 + r2) (by omega)
  have a1 : F__law_take_v3 [dI h, .int 4] = .ok (.int r1) (dI h1) := a1
  have c1 : F__law_signs_v3 [dI h2, dT l, .int (1 + (r2 : Int))] = .ok (dT one) (dI h3) := c1
  have rc : r1 = 1 ∨ r1 = 2 ∨ (r1 ≠ 1 ∧ r1 ≠ 2) := by omega
  simp only [F__law_word_v4, r_runF, B__law_word_v4]
  rcases rc with rfl | rfl | ⟨n1, n2⟩
  · obtain ⟨r3, h4, d1, d2, d3⟩ := dk_nat (m := 3) c4 (by decide)
    obtain ⟨am, h5, e1, e2, e3, e4⟩ := dsigns_ok hl h0 d3 (m := r3) (by omega)
    have d1 : F__law_take_v3 [dI h3, .int 3] = .ok (.int r3) (dI h4) := d1
    have L1 : one.length + am.length ≤ LIM := by show _ ≤ 100000; omega
    have L2 : one.length + am.length + one.length ≤ LIM := by show _ ≤ 100000; omega
    refine ⟨one ++ am ++ one, h5, ?_, (c2.append e2).append c2, by rw [List.length_append, List.length_append]; omega, by rw [List.length_append, List.length_append]; omega, e4⟩
    simp [a1, b1, c1, d1, e1, L1, L2, mapA, List.all_map, -List.map_append, -List.append_assoc]
  · obtain ⟨r3, h4, d1, d2, d3⟩ := dk_nat (m := 3) c4 (by decide)
    obtain ⟨r4, h5, e1, e2, e3⟩ := dk_nat (m := one.length + 1) d3 (by omega)
    have d1 : F__law_take_v3 [dI h3, .int 3] = .ok (.int r3) (dI h4) := d1
    have e1 : F__law_take_v3 [dI h4, .int ((one.length : Int) + 1)] = .ok (.int r4) (dI h5) := e1
    have bd : one.length * (1 + r3) ≤ one.length * 3 := Nat.mul_le_mul (Nat.le_refl _) (by omega)
    have bd2 : one.length * 1 ≤ one.length * (1 + r3) := Nat.mul_le_mul (Nat.le_refl _) (by omega)
    have km : gMul (dT one) (.int (1 + (r3 : Int))) = some (dT (List.replicate (1 + r3) one).flatten) := by
      have := gMul_dT (t := one) (k := 1 + r3) (by omega) (by omega)
      exact this
    have rl := rep_len one (1 + r3)
    rw [Nat.mul_comm] at rl
    have tl : (one.take r4).length ≤ one.length := by rw [List.length_take]; omega
    have ct : cutA one none (some (r4 : Int)) = one.take r4 := cutA_to one r4
    refine ⟨(List.replicate (1 + r3) one).flatten ++ one.take r4, h5, ?_, (tx_rep c2 _).append (c2.take _), by rw [List.length_append]; omega, by rw [List.length_append]; omega, e3⟩
    have L1 : (List.replicate (1 + r3) one).flatten.length + (one.take r4).length ≤ LIM := by show _ ≤ 100000; omega
    generalize hR : (List.replicate (1 + r3) one).flatten = R at km L1
    generalize hT : one.take r4 = T at ct L1
    simp [a1, b1, c1, d1, km, e1, cutA_map, ct, L1, mapA, List.all_map, -List.map_append]
  · have p1 : ¬ (r1 : Int) = 1 := by omega
    have p2 : ¬ (r1 : Int) = 2 := by omega
    refine ⟨one, h3, ?_, c2, by omega, by omega, c4⟩
    simp [a1, b1, c1, n1, n2, p1, p2]
theorem doverlaid_ok {l w : List Str} (hl : Tx l) (h0 : 0 < l.length) (hw : Tx w) (w0 : 0 < w.length) (hw2 : w.length ≤ 100) {many : Nat} (hm : many ≤ 60) {h : List Int} (hh : Dk h) : ∃ t h', F__law_overlaid_v2 [dI h, dT l, dT w, .int many] = .ok (dT t) (dI h') ∧ Tx t ∧ w.length ≤ t.length ∧ t.length ≤ (many + 1) * (w.length + 1) ∧ Dk h' := by
  have hs : smallI (many : Int) = true := small_of (by omega) (by omega)
  have hs2 : smallI (w.length : Int) = true := small_of (by omega) (by omega)
  obtain ⟨e', g1, t, h', e5, e6, e7, rfl, q1, q2, q3, q4⟩ := for_inv (tg := tgN 5) (b := B__law_overlaid_v2_l1) (ds := rngD 0 many) (e := [some (dI h), some (dT l), some (dT w), some (.int many), some (dT w), none, none, none, none])
    (fun i e => ∃ t h' e5 e6 e7, e = [some (dI h'), some (dT l), some (dT w), some (.int many), some (dT t), e5, e6, e7, none] ∧ Tx t ∧ w.length ≤ t.length ∧ t.length ≤ (i + 1) * (w.length + 1) ∧ Dk h')
    ⟨w, h, none, none, none, rfl, hw, Nat.le_refl _, by omega, hh⟩
    (fun i d e hd hi => by
      obtain ⟨t, h', e5, e6, e7, rfl, q1, q2, q3, q4⟩ := hi
      obtain ⟨hi, rfl⟩ := rng0_get hd
      have bd : (i + 1) * (w.length + 1) ≤ 60 * 101 := Nat.mul_le_mul (by omega) (by omega)
      have lc := lc_nat (is := [8]) (tg := tgN 8) (t := tOr2 (tB (e2 gEq (eV 8) (eC (.int 0)))) (tB (e2 gEq (eSl (eV 4) (oSome (e2 gSub (eN gLen (aCons (eV 4) aNil)) (eV 8))) oNone) (eSl (eV 2) oNone (oSome (eV 8)))))) (fe := eV 8) (e := [some (dI h'), some (dT l), some (dT w), some (.int many), some (dT t), some (.int i), e6, e7, none]) (fun j => decide (j = 0) || decide (t.drop (t.length - j) = w.take j)) (fun k => .int (k : Int)) (List.range w.length) (by rw [List.length_range]; show _ ≤ 100000; omega)
        (fun k hk => by
          rw [List.mem_range] at hk
          refine ⟨_, [some (dI h'), some (dT l), some (dT w), some (.int many), some (dT t), some (.int i), e6, e7, some (.int k)], rfl, ?_, fun _ => ⟨_, rfl, rfl⟩, fun _ => rfl⟩
          have e2 : ((t.length : Int) - (k : Int)) = ((t.length - k : Nat) : Int) := by omega
          by_cases k0 : k = 0
          · subst k0; simp
          · have k0' : ¬ (k : Int) = 0 := by omega
            simp [k0, k0', cutA_map, cutA_from, e2, cutA_to, gEq_dT (q1.drop (t.length - k)).ok (hw.take k).ok, -List.map_take, -List.map_drop])
      rw [← rng0] at lc
      generalize hB : (List.range w.length).filter (fun j => decide (j = 0) || decide (t.drop (t.length - j) = w.take j)) = Bs at lc
      have hb0 : 0 < Bs.length := by
        rw [← hB]; apply List.length_pos_of_mem (a := 0)
        rw [List.mem_filter, List.mem_range]; exact ⟨w0, rfl⟩
      have hbl : ∀ j ∈ Bs, j < w.length := fun j hj => by
        rw [← hB, List.mem_filter, List.mem_range] at hj; exact hj.1
      obtain ⟨r1, h1, a1, a2, a3⟩ := dk_nat (m := Bs.length) q4 hb0
      have a1' : L2.atI (Bs.map fun k : Nat => D.int (k : Int)) (r1 : Int) = some (.int ((Bs[r1] : Nat) : Int)) := by
        rw [atI_eq, List.getElem?_map, List.getElem?_eq_getElem a2]; rfl
      have hov := hbl _ (List.getElem_mem a2)
      obtain ⟨r2, h2, b1, b2, b3⟩ := dk_nat (m := 8) a3 (by decide)
      have b1 : F__law_take_v3 [dI h1, .int 8] = .ok (.int r2) (dI h2) := b1
      have cf : ∀ k : Nat, cutA w (some (k : Int)) none = w.drop k := cutA_from w
      have mul1 : (i + 1 + 1) * (w.length + 1) = (i + 1) * (w.length + 1) + (w.length + 1) := by rw [Nat.succ_mul]
      by_cases hr : r2 = 0
      · subst hr
        obtain ⟨s, h3, c1, c2, c3, c4⟩ := dsigns_ok hl h0 b3 (m := 1) (by decide)
        have c1 : F__law_signs_v3 [dI h2, dT l, .int 1] = .ok (dT s) (dI h3) := c1
        have cf0 : cutA w (some 0) none = w := by have := cf 0; simpa using this
        have L1 : t.length + s.length ≤ LIM := by show _ ≤ 100000; omega
        have L2 : (t ++ s).length + w.length ≤ LIM := by rw [List.length_append]; show _ ≤ 100000; omega
        refine ⟨_, [some (dI h3), some (dT l), some (dT w), some (.int many), some (dT (t ++ s ++ w)), some (.int i), some (dN Bs), some (.int 0), none], .nx, rfl, ?_, .inl rfl, t ++ s ++ w, h3, _, _, _, rfl, (q1.append c2).append hw, by rw [List.length_append, List.length_append]; omega, by rw [List.length_append, List.length_append, mul1]; omega, c4⟩
        generalize hS : t ++ s = S at L2
        have mS : t.map D.str ++ s.map D.str = S.map D.str := by rw [← hS, List.map_append]
        have mW : S.map D.str ++ w.map D.str = (S ++ w).map D.str := by rw [List.map_append]
        simp [B__law_overlaid_v2_l1, hs2, lc, List.all_map, a1, a1', b1, c1, L1, mS, cutA_map, cf0, L2, mW, -List.map_append]
      · have hr' : ¬ (r2 : Int) = 0 := by omega
        have dl : (w.drop Bs[r1]).length ≤ w.length := by rw [List.length_drop]; omega
        have L1 : t.length + (w.drop Bs[r1]).length ≤ LIM := by show _ ≤ 100000; omega
        refine ⟨_, [some (dI h2), some (dT l), some (dT w), some (.int many), some (dT (t ++ w.drop Bs[r1])), some (.int i), some (dN Bs), some (.int (Bs[r1] : Nat)), none], .nx, rfl, ?_, .inl rfl, t ++ w.drop Bs[r1], h2, _, _, _, rfl, q1.append (hw.drop _), by rw [List.length_append]; omega, by rw [List.length_append, mul1]; omega, b3⟩
        have cw := cf Bs[r1]
        generalize w.drop Bs[r1] = W at cw L1
        simp [B__law_overlaid_v2_l1, hs2, lc, List.all_map, a1, a1', b1, hr, hr', cutA_map, cw, L1, mapA, -List.map_append])
  rw [rngD_len] at q3
  refine ⟨t, h', ?_, q1, q2, q3, q4⟩
  simp only [F__law_overlaid_v2, r_runF, B__law_overlaid_v2]
  simp [hs, List.all_map, g1]
theorem dbent_ok {l t : List Str} (hl : Tx l) (h0 : 0 < l.length) (ht : Tx t) (hl2 : t.length ≤ 1000) {h : List Int} (hh : Dk h) : ∃ t' h', F__law_bent [dI h, dT l, dT t] = .ok (dT t') (dI h') ∧ Tx t' ∧ t'.length ≤ t.length + 1 ∧ Dk h' := by
  obtain ⟨r1, h1, a1, a2, a3⟩ := dk_nat (m := t.length + 1) hh (by omega)
  obtain ⟨r2, h2, b1, b2, b3⟩ := dk_nat (m := 3) a3 (by decide)
  have a1 : F__law_take_v3 [dI h, .int ((t.length : Int) + 1)] = .ok (.int r1) (dI h1) := a1
  have b1 : F__law_take_v3 [dI h1, .int 3] = .ok (.int r2) (dI h2) := b1
  have ct := cutA_to t r1
  simp only [F__law_bent, r_runF, B__law_bent]
  by_cases hr : r2 = 0
  · subst hr
    have cf := cutA_from1 t r1
    refine ⟨t.take r1 ++ t.drop (r1 + 1), h2, ?_, (ht.take _).append (ht.drop _), by rw [List.length_append, List.length_take, List.length_drop]; omega, b3⟩
    have L1 : (t.take r1).length + (t.drop (r1 + 1)).length ≤ LIM := by rw [List.length_take, List.length_drop]; show _ ≤ 100000; omega
    generalize t.take r1 = A at ct L1
    generalize t.drop (r1 + 1) = B at cf L1
    simp [a1, b1, cutA_map, ct, cf, L1, mapA, List.all_map, -List.map_append]
  · have hr' : ¬ (r2 : Int) = 0 := by omega
    obtain ⟨s, h3, c1, c2, c3, c4⟩ := dsigns_ok hl h0 b3 (m := 1) (by decide)
    have c1 : F__law_signs_v3 [dI h2, dT l, .int 1] = .ok (dT s) (dI h3) := c1
    have cf : cutA t (some ((r1 : Int) + 2 - (r2 : Int))) none = t.drop (r1 + 2 - r2) := by
      rw [show (r1 : Int) + 2 - (r2 : Int) = ((r1 + 2 - r2 : Nat) : Int) by omega, cutA_from]
    refine ⟨t.take r1 ++ s ++ t.drop (r1 + 2 - r2), h3, ?_, ((ht.take _).append c2).append (ht.drop _), by rw [List.length_append, List.length_append, List.length_take, List.length_drop]; omega, c4⟩
    have L1 : (t.take r1).length + s.length ≤ LIM := by rw [List.length_take]; show _ ≤ 100000; omega
    have L2 : (t.take r1 ++ s).length + (t.drop (r1 + 2 - r2)).length ≤ LIM := by rw [List.length_append, List.length_take, List.length_drop]; show _ ≤ 100000; omega
    generalize t.take r1 = A at ct L1 L2
    generalize t.drop (r1 + 2 - r2) = B at cf L2
    generalize hS : A ++ s = S at L2
    have mS : A.map D.str ++ s.map D.str = S.map D.str := by rw [← hS, List.map_append]
    have mW : S.map D.str ++ B.map D.str = (S ++ B).map D.str := by rw [List.map_append]
    simp [a1, b1, hr, hr', c1, cutA_map, ct, cf, L1, mS, L2, mW, List.all_map, -List.map_append]
def pairT : M Fl := (sSeq (sSet 5 (eCallW F__law_take_v3 0 (aCons (e2 gIx (eN gLst (aCons (eC (.int 1)) (aCons (e2 gAdd (eN gLen (aCons (eV 3) aNil)) (eC (.int 1))) aNil))) (eCallW F__law_take_v3 0 (aCons (eC (.int 2)) aNil))) aNil)))
  (sSeq (sSet 6 (eCallW F__law_take_v3 0 (aCons (e2 gIx (eN gLst (aCons (eC (.int 1)) (aCons (e2 gAdd (eN gLen (aCons (eV 3) aNil)) (eC (.int 1))) aNil))) (eCallW F__law_take_v3 0 (aCons (eC (.int 2)) aNil))) aNil)))
  (sSeq (sSet 4 (eSl (eSl (eV 4) (oSome (eV 5)) oNone) oNone (oSome (eC (.int 200)))))
  (sSeq (sSet 4 (eSl (eV 4) oNone (oSome (e2 gSub (eN gLen (aCons (eV 4) aNil)) (eN gMin2 (aCons (eV 6) (aCons (eN gLen (aCons (eV 4) aNil)) aNil)))))))
  (sSeq (sIf (tB (e2 gEq (eCallW F__law_take_v3 0 (aCons (eC (.int 4)) aNil)) (eC (.int 0)))) (sSet 4 (eSl (eCallW F__law_bent 0 (aCons (eV 2) (aCons (eV 4) aNil))) oNone (oSome (eC (.int 200))))) sSkip)
  (sSeq (sIf (tB (e2 gEq (eCallW F__law_take_v3 0 (aCons (eC (.int 6)) aNil)) (eC (.int 0)))) (sSet 3 (eCallW F__law_bent 0 (aCons (eV 2) (aCons (eV 3) aNil)))) sSkip)
  (sRet (eN gTupD (aCons (eOrT (eV 4) (eSl (eV 2) oNone (oSome (eC (.int 1))))) (aCons (eOrT (eV 3) (eSl (eV 2) oNone (oSome (eC (.int 1))))) aNil)))))))))) 
theorem dcut_ok {w : List Str} {h : List Int} (hh : Dk h) : ∃ (r m k : Nat) (h1 h2 : List Int), F__law_take_v3 [dI h, .int 2] = .ok (.int k) (dI h1) ∧ L2.atI [D.int 1, .int ((w.length : Int) + 1)] (k : Int) = some (.int (m : Int)) ∧ F__law_take_v3 [dI h1, .int (m : Int)] = .ok (.int r) (dI h2) ∧ r ≤ w.length ∧ Dk h2 := by
  obtain ⟨k, h1, a1, a2, a3⟩ := dk_nat (m := 2) hh (by decide)
  have a1 : F__law_take_v3 [dI h, .int 2] = .ok (.int k) (dI h1) := a1
  match k, a2 with
  | 0, _ =>
    obtain ⟨r, h2, b1, b2, b3⟩ := dk_nat (m := 1) a3 (by decide)
    exact ⟨r, 1, 0, h1, h2, a1, rfl, b1, by omega, b3⟩
  | 1, _ =>
    obtain ⟨r, h2, b1, b2, b3⟩ := dk_nat (m := w.length + 1) a3 (by omega)
    exact ⟨r, w.length + 1, 1, h1, h2, a1, rfl, b1, by omega, b3⟩
theorem orT_ne {l t : List Str} (hl : Tx l) (h0 : 0 < l.length) (ht : Tx t) : ∃ u, Tx u ∧ u ≠ [] ∧ u.length ≤ max 1 t.length ∧ ∀ (e : PEnv) (i : Nat), e[i]? = some (some (dT t)) → e[2]? = some (some (dT l)) → eOrT (eV i) (eSl (eV 2) oNone (oSome (eC (.int 1)))) e = .ok (dT u) e := by
  have c1 : cutA l none (some (1 : Int)) = l.take 1 := cutA_to l 1
  cases t with
  | nil =>
    refine ⟨l.take 1, hl.take 1, fun h => ?_, by rw [List.length_take]; omega, fun e i h1 h2 => ?_⟩
    · have := congrArg List.length h; rw [List.length_take, List.length_nil] at this; omega
    · simp [h1, h2, cutA_map, c1, -List.map_take]
  | cons x r =>
    exact ⟨x :: r, ht, (fun h => by cases h), by omega, fun e i h1 h2 => by simp [h1]⟩
theorem pairT_ok {l w t : List Str} (hl : Tx l) (h0 : 0 < l.length) (hw : Tx w) (w0 : 0 < w.length) (hw2 : w.length ≤ 60) (ht : Tx t) {lg : D} {h : List Int} (hh : Dk h) {x5 x6 : Option D} :
    ∃ t' w' h' e, pairT [some (dI h), some lg, some (dT l), some (dT w), some (dT t), x5, x6] = .ok (.rt (.tup [dT t', dT w'])) (some (dI h') :: e) ∧ Tx t' ∧ t' ≠ [] ∧ t'.length ≤ 200 ∧ Tx w' ∧ w' ≠ [] ∧ w'.length ≤ w.length + 1 ∧ Dk h' := by
  have z2 : (2 : Nat) ≤ PySem.sizeLine := by decide
  obtain ⟨b, m1, k1, h1, h2, a1, a2, a3, a4, a5⟩ := dcut_ok (w := w) hh
  obtain ⟨n, m2, k2, h3, h4, b1, b2, b3, b4, b5⟩ := dcut_ok (w := w) a5
  have cf : cutA t (some (b : Int)) none = t.drop b := cutA_from t b
  have c200 : cutA (t.drop b) none (some (200 : Int)) = (t.drop b).take 200 := cutA_to _ 200
  generalize hA : (t.drop b).take 200 = A at c200
  have tA : Tx A := by rw [← hA]; exact (ht.drop b).take 200
  have lA : A.length ≤ 200 := by rw [← hA, List.length_take]; omega
  have mn := min_nat n A.length
  have sb : (A.length : Int) - ((min n A.length : Nat) : Int) = ((A.length - min n A.length : Nat) : Int) := by omega
  have cA := cutA_to A (A.length - min n A.length)
  generalize hB : A.take (A.length - min n A.length) = B at cA
  have tB : Tx B := by rw [← hB]; exact tA.take _
  have lB : B.length ≤ 200 := by rw [← hB, List.length_take]; omega
  obtain ⟨r1, h5, d1, d2, d3⟩ := dk_nat (m := 4) b5 (by decide)
  have d1 : F__law_take_v3 [dI h4, .int 4] = .ok (.int r1) (dI h5) := d1
  obtain ⟨C, h6, g1, tC, lC, g3⟩ : ∃ C h6, (sIf (MV.tB (e2 gEq (eCallW F__law_take_v3 0 (aCons (eC (.int 4)) aNil)) (eC (.int 0)))) (sSet 4 (eSl (eCallW F__law_bent 0 (aCons (eV 2) (aCons (eV 4) aNil))) oNone (oSome (eC (.int 200))))) sSkip) [some (dI h4), some lg, some (dT l), some (dT w), some (dT B), some (.int b), some (.int n)] = .ok .nx [some (dI h6), some lg, some (dT l), some (dT w), some (dT C), some (.int b), some (.int n)] ∧ Tx C ∧ C.length ≤ 200 ∧ Dk h6 := by
    by_cases hr : r1 = 0
    · subst hr
      obtain ⟨C, h6, c1, c2, c3, c4⟩ := dbent_ok hl h0 tB (by omega) d3
      have cc : cutA C none (some (200 : Int)) = C.take 200 := cutA_to C 200
      refine ⟨C.take 200, h6, ?_, c2.take _, by rw [List.length_take]; omega, c4⟩
      simp [d1, c1, cutA_map, cc, List.all_map, -List.map_take]
    · have hr' : ¬ (r1 : Int) = 0 := by omega
      exact ⟨B, h5, by simp [d1, hr, hr'], tB, lB, d3⟩
  obtain ⟨r2, h7, i1, i2, i3⟩ := dk_nat (m := 6) g3 (by decide)
  have i1 : F__law_take_v3 [dI h6, .int 6] = .ok (.int r2) (dI h7) := i1
  obtain ⟨E, h8, j1, tE, lE, j3⟩ : ∃ E h8, (sIf (MV.tB (e2 gEq (eCallW F__law_take_v3 0 (aCons (eC (.int 6)) aNil)) (eC (.int 0)))) (sSet 3 (eCallW F__law_bent 0 (aCons (eV 2) (aCons (eV 3) aNil)))) sSkip) [some (dI h6), some lg, some (dT l), some (dT w), some (dT C), some (.int b), some (.int n)] = .ok .nx [some (dI h8), some lg, some (dT l), some (dT E), some (dT C), some (.int b), some (.int n)] ∧ Tx E ∧ E.length ≤ w.length + 1 ∧ Dk h8 := by
    by_cases hr : r2 = 0
    · subst hr
      obtain ⟨C, h6, c1, c2, c3, c4⟩ := dbent_ok hl h0 hw (by omega) i3
      refine ⟨C, h6, ?_, c2, c3, c4⟩
      simp [i1, c1, List.all_map]
    · have hr' : ¬ (r2 : Int) = 0 := by omega
      exact ⟨w, h7, by simp [i1, hr, hr'], hw, by omega, i3⟩
  obtain ⟨t', p1, p2, p3, p4⟩ := orT_ne hl h0 tC
  obtain ⟨w', q1, q2, q3, q4⟩ := orT_ne hl h0 tE
  have p4 := p4 [some (dI h8), some lg, some (dT l), some (dT E), some (dT C), some (.int b), some (.int n)] 4 rfl rfl
  have q4 := q4 [some (dI h8), some lg, some (dT l), some (dT E), some (dT C), some (.int b), some (.int n)] 3 rfl rfl
  refine ⟨t', w', h8, [some lg, some (dT l), some (dT E), some (dT C), some (.int b), some (.int n)], ?_, p1, p2, by omega, q1, q2, by omega, j3⟩
  unfold pairT
  simp [z2, a1, a2, a3, b1, b2, b3, cutA_map, cf, c200, mn, sb, cA, g1, j1, p4, q4, List.all_map, -gMin2_i, -List.map_take, -List.map_drop, -r_sIf, -r_eOrT]
theorem pair_while {l w : List Str} {lg h : D} {x5 x6 : Option D} : ∀ (k : Nat) (t : List Str), Tx t → 0 < t.length → 200 - t.length ≤ k → t.length ≤ 20000 → ∃ t', Tx t' ∧ sWhile T__law_pair_l1 B__law_pair_l2 (k + 1) [some h, some lg, some (dT l), some (dT w), some (dT t), x5, x6] = .ok .nx [some h, some lg, some (dT l), some (dT w), some (dT t'), x5, x6]
  | 0, t, ht, h0, hk, hl => by
    refine ⟨t, ht, ?_⟩
    have h1 : ¬ (t.length : Int) < 200 := by omega
    have h2 : ¬ t.length < 200 := by omega
    simp [sWhile, T__law_pair_l1, h1]
  | k + 1, t, ht, h0, hk, hl => by
    by_cases h2 : t.length < 200
    · have h1 : (t.length : Int) < 200 := by omega
      obtain ⟨t', q1, q2⟩ := pair_while (l := l) (w := w) (lg := lg) (h := h) (x5 := x5) (x6 := x6) k (t ++ t) (ht.append ht) (by rw [List.length_append]; omega) (by rw [List.length_append]; omega) (by rw [List.length_append]; omega)
      refine ⟨t', q1, ?_⟩
      have L1 : t.length + t.length ≤ LIM := by show _ ≤ 100000; omega
      have hT : T__law_pair_l1 [some h, some lg, some (dT l), some (dT w), some (dT t), x5, x6] = .ok true [some h, some lg, some (dT l), some (dT w), some (dT t), x5, x6] := by simp [T__law_pair_l1, h1]
      have hB : B__law_pair_l2 [some h, some lg, some (dT l), some (dT w), some (dT t), x5, x6] = .ok .nx [some h, some lg, some (dT l), some (dT w), some (dT (t ++ t)), x5, x6] := by simp [B__law_pair_l2, L1, mapA, -List.map_append]
      rw [sWhile, bnd_of_ok hT]
      show bnd B__law_pair_l2 (sAft (sWhile T__law_pair_l1 B__law_pair_l2 (k + 1))) _ = _
      rw [bnd_of_ok hB]
      exact q2
    · refine ⟨t, ht, ?_⟩
      have h1 : ¬ (t.length : Int) < 200 := by omega
      simp [sWhile, T__law_pair_l1, h1]
theorem dpair_ok {h : List Int} (hh : Dk h) (lg : Bool) : ∃ t w h', F__law_pair [dI h, .bl lg] = .ok (.tup [dT t, dT w]) (dI h') ∧ Tx t ∧ t ≠ [] ∧ t.length ≤ 200 ∧ Tx w ∧ w ≠ [] ∧ w.length ≤ 51 ∧ Dk h' := by
  have z3 : (3 : Nat) ≤ PySem.sizeLine := by decide
  obtain ⟨l, h1, a1, a2, a3, a4, a5⟩ := dletters_ok hh
  obtain ⟨r1, h2, b1, b2, b3⟩ := dk_nat (m := 3) a5 (by decide)
  have b1 : F__law_take_v3 [dI h1, .int 3] = .ok (.int r1) (dI h2) := b1
  obtain ⟨m, m1, m2, m3⟩ : ∃ m : Nat, L2.atI [D.int 3, .int 6, .int 12] (r1 : Int) = some (.int (m : Int)) ∧ 0 < m ∧ m ≤ 12 := by
    rw [atI_eq]
    match r1, b2 with
    | 0, _ => exact ⟨3, rfl, by decide, by decide⟩
    | 1, _ => exact ⟨6, rfl, by decide, by decide⟩
    | 2, _ => exact ⟨12, rfl, by decide, by decide⟩
  obtain ⟨w, h3, c1, c2, c3, c4, c5⟩ := dword_ok a2 a3 m2 (by omega) b3
  obtain ⟨r2, h4, d1, d2, d3⟩ := dk_nat (m := 5) c5 (by decide)
  have d1 : F__law_take_v3 [dI h3, .int 5] = .ok (.int r2) (dI h4) := d1
  obtain ⟨t, h5, ee1, ee2, ee3, ee4, ee5⟩ := doverlaid_ok a2 a3 c2 c3 (by omega) (many := r2) (by omega) d3
  obtain ⟨t2, h6, f1, f2, f3⟩ : ∃ t2 h6, (sIf (tAnd2 (tTr (eV 1)) (tB (e2 gEq (eCallW F__law_take_v3 0 (aCons (eC (.int 16)) aNil)) (eC (.int 3))))) (sSeq (sSet 4 (eCallW F__law_overlaid_v2 0 (aCons (eV 2) (aCons (eV 3) (aCons (eC (.int 20)) aNil)))))
  (sWhile T__law_pair_l1 B__law_pair_l2 WFUEL)) sSkip) [some (dI h5), some (.bl lg), some (dT l), some (dT w), some (dT t), none, none] = .ok .nx [some (dI h6), some (.bl lg), some (dT l), some (dT w), some (dT t2), none, none] ∧ Tx t2 ∧ Dk h6 := by
    cases lg with
    | false => exact ⟨t, h5, by simp, ee2, ee5⟩
    | true =>
      obtain ⟨r3, h6, g1, g2, g3⟩ := dk_nat (m := 16) ee5 (by decide)
      have g1 : F__law_take_v3 [dI h5, .int 16] = .ok (.int r3) (dI h6) := g1
      by_cases hr : r3 = 3
      · subst hr
        obtain ⟨t2, h7, i1, i2, i3, i4, i5⟩ := doverlaid_ok a2 a3 c2 c3 (by omega) (many := 20) (by omega) g3
        have i1 : F__law_overlaid_v2 [dI h6, dT l, dT w, .int 20] = .ok (dT t2) (dI h7) := i1
        have bd : (20 + 1) * (w.length + 1) ≤ 21 * 101 := Nat.mul_le_mul (by omega) (by omega)
        obtain ⟨t3, j1, j2⟩ := pair_while (l := l) (w := w) (lg := .bl true) (h := dI h7) (x5 := none) (x6 := none) (WFUEL - 1) t2 i2 (by omega) (by show _ ≤ WFUEL - 1; unfold WFUEL; omega) (by omega)
        refine ⟨t3, h7, ?_, j1, i5⟩
        have wf : WFUEL - 1 + 1 = WFUEL := by unfold WFUEL; rfl
        rw [wf] at j2
        simp [g1, i1, j2, List.all_map]
      · have hr' : ¬ (r3 : Int) = 3 := by omega
        exact ⟨t, h6, by simp [g1, hr, hr'], ee2, g3⟩
  obtain ⟨t', w', h', e, k1, k2, k3, k4, k5, k6, k7, k8⟩ := pairT_ok a2 a3 c2 c3 (by omega) f2 (lg := .bl lg) f3 (x5 := none) (x6 := none)
  refine ⟨t', w', h', ?_, k2, k3, k4, k5, k6, by omega, k8⟩
  have hB : B__law_pair = sSeq (sSet 2 (eCallW F__law_letters_v3 0 aNil)) (sSeq (sSet 3 (eCallW F__law_word_v4 0 (aCons (eV 2) (aCons (e2 gIx (eN gLst (aCons (eC (.int 3)) (aCons (eC (.int 6)) (aCons (eC (.int 12)) aNil)))) (eCallW F__law_take_v3 0 (aCons (eC (.int 3)) aNil))) aNil)))) (sSeq (sSet 4 (eCallW F__law_overlaid_v2 0 (aCons (eV 2) (aCons (eV 3) (aCons (eCallW F__law_take_v3 0 (aCons (eC (.int 5)) aNil)) aNil))))) (sSeq (sIf (tAnd2 (tTr (eV 1)) (tB (e2 gEq (eCallW F__law_take_v3 0 (aCons (eC (.int 16)) aNil)) (eC (.int 3))))) (sSeq (sSet 4 (eCallW F__law_overlaid_v2 0 (aCons (eV 2) (aCons (eV 3) (aCons (eC (.int 20)) aNil)))))
  (sWhile T__law_pair_l1 B__law_pair_l2 WFUEL)) sSkip) pairT))) := rfl
  simp only [F__law_pair, r_runF, hB]
  simp [z3, a1, b1, m1, c1, d1, ee1, f1, k1, List.all_map, -r_sIf]
end Ov
namespace Ov
open PySem (Str)
open MV
def reach (w : Nat) : Nat → List Nat → Nat
  | r, [] => r
  | r, p :: L => if p ≤ r then reach w (p + w) L else reach w r L
abbrev Srt (l : List Nat) : Prop := l.Pairwise (· < ·)
theorem reach_fold (w : Nat) : ∀ (L : List Nat) (r : Nat), L.foldl (fun r p => if p ≤ r then p + w else r) r = reach w r L
  | [], r => rfl
  | p :: L, r => by
    rw [List.foldl_cons, reach_fold w L, reach]
    by_cases h : p ≤ r
    · rw [if_pos h, if_pos h]
    · rw [if_neg h, if_neg h]
theorem reach_max (w : Nat) : ∀ (L : List Nat) (r : Nat), Srt L → (∀ p ∈ L, r ≤ p + w) → L.foldl (fun r p => if p ≤ r then max r (p + w) else r) r = reach w r L
  | [], r, _, _ => rfl
  | p :: L, r, hs, hr => by
    rw [List.foldl_cons, reach]
    have hs := List.pairwise_cons.mp hs
    have h1 := hr p List.mem_cons_self
    by_cases h : p ≤ r
    · rw [if_pos h, if_pos h, Nat.max_eq_right h1, reach_max w L _ hs.2 fun q hq => by have := hs.1 q hq; omega]
    · rw [if_neg h, if_neg h, reach_max w L _ hs.2 fun q hq => hr q (List.mem_cons_of_mem _ hq)]
theorem srt_range (n : Nat) : Srt (List.range n) := List.pairwise_lt_range
theorem srt_filter {l : List Nat} (p : Nat → Bool) (h : Srt l) : Srt (l.filter p) := h.filter p
theorem srt_lies (t w : List Str) : Srt (lies t w) := srt_filter _ (srt_range _)
end Ov
namespace Ov
open PySem (Str)
open MV
end Ov
namespace Ov
open PySem (Str)
open MV
theorem need_text_val {t : List Str} (ht : Tx t) (h0 : t ≠ []) : F_need_text [dT t] = .ok .non (dT t) := by
  simp only [F_need_text, r_runF, B_need_text]
  simp [hsz0, gEq_nT ht.ok, h0]
theorem need_both_val {t w : List Str} (ht : Tx t) (hw : Tx w) (ht0 : t ≠ []) (h0 : w ≠ []) (hl : t.length ≤ 1000) (hl2 : w.length ≤ 1000) : F_need_both [dT t, dT w] = .ok .non (dT t) := by
  have hL : t.length + w.length ≤ LIM := by show _ ≤ 100000; omega
  have hn := need_signs_val (ht.append hw) (by rw [List.length_append]; exact hL)
  have hn : F_need_signs [.lst (t.map D.str ++ w.map D.str)] = .ok .non (dT (t ++ w)) := by rw [← List.map_append]; exact hn
  simp only [F_need_both, r_runF, B_need_both]
  simp [need_word_val hw h0, hL, hn, need_text_val ht ht0]
theorem lies_self (t : List Str) : lies t t = [0] := by
  unfold lies
  rw [show t.length + 1 - t.length = 1 by omega]
  simp
end Ov
namespace Ov
open PySem (Str PyData)
open MV
def topL (p : Nat → Bool) : Nat → Nat
  | 0 => 0
  | n + 1 => if p (n + 1) then n + 1 else topL p n
theorem topL_le (p : Nat → Bool) : ∀ n, topL p n ≤ n
  | 0 => Nat.le_refl _
  | n + 1 => by
    unfold topL
    split
    · exact Nat.le_refl _
    · have := topL_le p n; omega
theorem topL_yes (p : Nat → Bool) : ∀ n, topL p n ≠ 0 → p (topL p n) = true
  | 0, h => absurd rfl h
  | n + 1, h => by
    unfold topL at h ⊢
    split
    · assumption
    · rename_i q
      rw [if_neg q] at h
      exact topL_yes p n h
theorem topL_max (p : Nat → Bool) : ∀ n k, 1 ≤ k → k ≤ n → p k = true → k ≤ topL p n
  | 0, k, h1, h2, _ => by omega
  | n + 1, k, h1, h2, h3 => by
    unfold topL
    split
    · exact h2
    · rename_i q
      have : k ≠ n + 1 := fun e => by subst e; exact q h3
      exact topL_max p n k h1 (by omega) h3
theorem rngC_down (n : Nat) : rngC ((n + 1 : Nat) : Int) (-1) (n + 1) = .int ((n + 1 : Nat) : Int) :: rngC (n : Int) (-1) n := by
  unfold rngC
  rw [List.range_succ_eq_map, List.map_cons, List.map_map]
  have h1 : (List.range n).map ((fun k : Nat => D.int (((n + 1 : Nat) : Int) + (k : Int) * -1)) ∘ Nat.succ) = (List.range n).map fun k : Nat => D.int ((n : Int) + (k : Int) * -1) := by
    apply List.map_congr_left
    intro k _
    show D.int _ = D.int _
    congr 1
    omega
  rw [h1]
  congr 2
theorem down_loop {b : M Fl} {j m : Nat} (p : Nat → Bool) (A : Option D → PEnv) (hA : ∀ x d, (A x).set j (some d) = A (some d))
    (hb : ∀ k, 1 ≤ k → k ≤ m → b (A (some (.int (k : Int)))) = if p k = true then .ok (.rt (.int (k : Int))) (A (some (.int (k : Int)))) else .ok .nx (A (some (.int (k : Int))))) :
    ∀ n, n ≤ m → ∀ x, ∃ y, sForL (tgN j) b (rngC (n : Int) (-1) n) (A x) = if topL p n = 0 then .ok .nx (A y) else .ok (.rt (.int (topL p n : Nat))) (A y)
  | 0, _, x => ⟨x, rfl⟩
  | n + 1, hn, x => by
    have h1 := hb (n + 1) (by omega) hn
    have h0 : tgN j (.int ((n + 1 : Nat) : Int)) (A x) = .ok () (A (some (.int ((n + 1 : Nat) : Int)))) := by rw [r_tgN, hA]
    rw [rngC_down, sForL, bnd_of_ok h0]
    cases q : p (n + 1) with
    | true =>
      rw [q, if_pos rfl] at h1
      rw [bnd_of_ok h1]
      refine ⟨some (.int ((n + 1 : Nat) : Int)), ?_⟩
      have e : topL p (n + 1) = n + 1 := by unfold topL; rw [if_pos q]
      rw [e, if_neg (by omega)]
      rfl
    | false =>
      rw [q, if_neg (by decide)] at h1
      rw [bnd_of_ok h1]
      have e : topL p (n + 1) = topL p n := by rw [topL, q]; rfl
      rw [e]
      exact down_loop p A hA hb n (by omega) _
def haB (t w : List Str) (l : Nat) : Bool := decide (w.drop (w.length - l) = t.take l)
def hbB (t w : List Str) (l : Nat) : Bool := decide (w.take l = t.drop (t.length - l))
def ha (t w : List Str) : Nat := topL (haB t w) (min t.length (w.length - 1))
def hb (t w : List Str) : Nat := topL (hbB t w) (min t.length (w.length - 1))
theorem ha_le (t w : List Str) : ha t w ≤ t.length := Nat.le_trans (topL_le _ _) (Nat.min_le_left _ _)
theorem hb_le (t w : List Str) : hb t w ≤ t.length := Nat.le_trans (topL_le _ _) (Nat.min_le_left _ _)
theorem hung_ahead_val {t w : List Str} (ht : Tx t) (hw : Tx w) (w0 : w ≠ []) (hl : t.length ≤ 1000) (hl2 : w.length ≤ 1000) : F_hung_ahead [dT t, dT w] = .ok (.int (ha t w : Nat)) (dT t) := by
  have w1 : 0 < w.length := List.length_pos_iff.mpr w0
  have mn : gMin2 [.int (t.length : Int), .int ((w.length : Int) - 1)] = some (.int ((min t.length (w.length - 1) : Nat) : Int)) := by
    have := min_nat t.length (w.length - 1)
    rwa [show ((w.length - 1 : Nat) : Int) = (w.length : Int) - 1 by omega] at this
  have hs : smallI ((min t.length (w.length - 1) : Nat) : Int) = true := small_of (by omega) (by omega)
  have h0 : smallI 0 = true := by decide
  obtain ⟨y, h1⟩ := down_loop (b := B_hung_ahead_l1) (j := 2) (m := min t.length (w.length - 1)) (haB t w) (fun x => [some (dT t), some (dT w), x]) (fun x d => rfl) (fun k k1 k2 => by
    have e1 : (w.length : Int) - (k : Int) = ((w.length - k : Nat) : Int) := by omega
    have c1 := cutA_from w (w.length - k)
    have c2 := cutA_to t k
    have eq := gEq_dT (hw.drop (w.length - k)).ok (ht.take k).ok
    unfold haB
    by_cases q : w.drop (w.length - k) = t.take k
    · rw [decide_eq_true q] at eq ⊢
      simp [B_hung_ahead_l1, e1, cutA_map, c1, c2, eq, -List.map_take, -List.map_drop]
    · rw [decide_eq_false q] at eq ⊢
      simp [B_hung_ahead_l1, e1, cutA_map, c1, c2, eq, -List.map_take, -List.map_drop]) (min t.length (w.length - 1)) (Nat.le_refl _) none
  have e2 : (((min t.length (w.length - 1) : Nat) : Int) - 0).toNat = min t.length (w.length - 1) := by omega
  have hh : ha t w = topL (haB t w) (min t.length (w.length - 1)) := rfl
  rw [← hh] at h1
  generalize min t.length (w.length - 1) = m at mn hs h1 e2
  simp only [F_hung_ahead, r_runF, B_hung_ahead]
  have e3 : ((m : Int) - 0).toNat = m := by omega
  by_cases q : ha t w = 0
  · rw [if_pos q] at h1
    simp [mn, -gMin2_i, hs, h0, e3, h1, q]
  · rw [if_neg q] at h1
    simp [mn, -gMin2_i, hs, h0, e3, h1]
theorem hung_behind_val {t w : List Str} (ht : Tx t) (hw : Tx w) (w0 : w ≠ []) (hl : t.length ≤ 1000) (hl2 : w.length ≤ 1000) : F_hung_behind [dT t, dT w] = .ok (.int (hb t w : Nat)) (dT t) := by
  have w1 : 0 < w.length := List.length_pos_iff.mpr w0
  have mn : gMin2 [.int (t.length : Int), .int ((w.length : Int) - 1)] = some (.int ((min t.length (w.length - 1) : Nat) : Int)) := by
    have := min_nat t.length (w.length - 1)
    rwa [show ((w.length - 1 : Nat) : Int) = (w.length : Int) - 1 by omega] at this
  have hs : smallI ((min t.length (w.length - 1) : Nat) : Int) = true := small_of (by omega) (by omega)
  have h0 : smallI 0 = true := by decide
  obtain ⟨y, h1⟩ := down_loop (b := B_hung_behind_l1) (j := 2) (m := min t.length (w.length - 1)) (hbB t w) (fun x => [some (dT t), some (dT w), x]) (fun x d => rfl) (fun k k1 k2 => by
    have e1 : (t.length : Int) - (k : Int) = ((t.length - k : Nat) : Int) := by omega
    have c1 := cutA_from t (t.length - k)
    have c2 := cutA_to w k
    have eq := gEq_dT (hw.take k).ok (ht.drop (t.length - k)).ok
    unfold hbB
    by_cases q : w.take k = t.drop (t.length - k)
    · rw [decide_eq_true q] at eq ⊢
      simp [B_hung_behind_l1, e1, cutA_map, c1, c2, eq, -List.map_take, -List.map_drop]
    · rw [decide_eq_false q] at eq ⊢
      simp [B_hung_behind_l1, e1, cutA_map, c1, c2, eq, -List.map_take, -List.map_drop]) (min t.length (w.length - 1)) (Nat.le_refl _) none
  have hh : hb t w = topL (hbB t w) (min t.length (w.length - 1)) := rfl
  rw [← hh] at h1
  generalize min t.length (w.length - 1) = m at mn hs h1
  simp only [F_hung_behind, r_runF, B_hung_behind]
  have e3 : ((m : Int) - 0).toNat = m := by omega
  by_cases q : hb t w = 0
  · rw [if_pos q] at h1
    simp [mn, -gMin2_i, hs, h0, e3, h1, q]
  · rw [if_neg q] at h1
    simp [mn, -gMin2_i, hs, h0, e3, h1]
def cam (w b : Nat) (L : List Nat) : Nat := L.foldl (fun r p => if p ≤ r then max r (p + w) else r) b
theorem camid_val {t w : List Str} (ht : Tx t) (hw : Tx w) {b e : Nat} (hl : t.length ≤ 1000) (hl2 : w.length ≤ 1000) : F_covers_amid [dT t, dT w, .int (b : Int), .int (e : Int)] = .ok (.bl (decide (e ≤ cam w.length b (lies t w)))) (dT t) := by
  obtain ⟨e', h1, x, rfl⟩ := for_fold (tg := tgN 5) (b := B_covers_amid_l1) (φ := fun k : Nat => D.int (k : Int)) (fun (r : Nat) env => ∃ x, env = [some (dT t), some (dT w), some (.int (b : Int)), some (.int (e : Int)), some (.int (r : Int)), x]) (fun r p => if p ≤ r then max r (p + w.length) else r) (lies t w) b [some (dT t), some (dT w), some (.int (b : Int)), some (.int (e : Int)), some (.int (b : Int)), none] ⟨none, rfl⟩
    (fun r p env _ hr => by
      obtain ⟨x, rfl⟩ := hr
      have mx : gMax2 [.int (r : Int), .int ((p : Int) + (w.length : Int))] = some (.int ((max r (p + w.length) : Nat) : Int)) := max_nat r (p + w.length)
      refine ⟨_, _, .nx, rfl, ?_, .inl rfl, some (.int (p : Int)), rfl⟩
      by_cases q : p ≤ r
      · have q' : (p : Int) ≤ r := by omega
        simp [B_covers_amid_l1, q, q', mx, -gMax2_i]
      · have q' : ¬ (p : Int) ≤ r := by omega
        simp [B_covers_amid_l1, q, q'])
  have hc : (lies t w).foldl (fun r p => if p ≤ r then max r (p + w.length) else r) b = cam w.length b (lies t w) := rfl
  rw [hc] at h1
  simp only [F_covers_amid, r_runF, B_covers_amid]
  have z : decide ((e : Int) ≤ (cam w.length b (lies t w) : Nat)) = decide (e ≤ cam w.length b (lies t w)) := decide_eq_decide.mpr (by omega)
  simp [laid_at_val ht hw hl hl2, h1, z]
theorem within_val {t w : List Str} (ht : Tx t) (hw : Tx w) (hl : t.length ≤ 1000) (hl2 : w.length ≤ 1000) : F_is_within [dT t, dT w] = .ok (.bl (!decide (lies w t = []))) (dT t) := by
  simp only [F_is_within, r_runF, B_is_within]
  simp [laid_at_val hw ht hl2 hl, gNe_nN, hsz0]
def rbV (t w : List Str) : Bool := decide (t.length - hb t w ≤ cam w.length 0 (lies t w))
def raV (t w : List Str) : Bool := decide (t.length ≤ cam w.length (ha t w) (lies t w))
def cbV (t w : List Str) : Bool := !decide (lies w t = []) || decide (t.length - hb t w ≤ cam w.length (ha t w) (lies t w))
section
variable {t w : List Str}
end
def pc (t : List Str) (l p : Nat) : List Str := (t.drop p).take l
def fstAt (t : List Str) (l p : Nat) : Bool := !((List.range p).any fun k => decide (pc t l k = pc t l p))
def metK (s : List Str) : List L2.Key := s.map Sum.inr
end Ov
namespace Ov
open PySem (Str PyData)
open MV
def S2 (k : Nat) : List Nat := if k = 0 then [0] else [0, k]
theorem sort2 (k : Nat) : gSortSet [.lst [.int 0, .int (k : Int)]] = some (dN (S2 k)) := by
  have : dsI [0, (k : Int)] = (S2 k).map fun k : Nat => (k : Int) := by
    unfold S2
    by_cases q : k = 0
    · subst q; rfl
    · rw [if_neg q]
      exact dsI_of (by simp; omega)
  show (match asInts [D.int 0, .int (k : Int)] with | some ns => if ns.length ≤ 4000 then some (D.lst ((dsI ns).map .int)) else none | none => none) = _
  have a : asInts [D.int 0, .int (k : Int)] = some [0, (k : Int)] := rfl
  rw [a]
  simp only [List.length_cons, List.length_nil]
  rw [if_pos (by decide), this, List.map_map]
  rfl
def shB (t w : List Str) (f l : Nat) : List Str := (if 0 < f then w.take (w.length - f) else []) ++ t ++ (if 0 < l then w.drop l else [])
def shR (t w : List Str) (f l : Nat) : List (List Str) := if t.length - l ≤ cam w.length f (lies t w) then [shB t w f l] else []
def shC (t w : List Str) : List (List Str) := (if lies w t = [] then [] else [w]) ++ (S2 (ha t w)).flatMap fun f => (S2 (hb t w)).flatMap fun l => shR t w f l
def lenT (c : List Str) : D := .tup [.int (c.length : Int), dT c]
def mnT (c : List Str) (cs : List (List Str)) : List Str := cs.foldl (fun a y => if ltD (lenT y) (lenT a) then y else a) c
theorem mnD_lenT (c : List Str) (cs : List (List Str)) : mnD (lenT c) (cs.map lenT) = lenT (mnT c cs) := by
  unfold mnD mnT
  induction cs generalizing c with
  | nil => rfl
  | cons y r ih =>
    rw [List.map_cons, List.foldl_cons, List.foldl_cons]
    by_cases q : ltD (lenT y) (lenT c) = true
    · rw [if_pos q, if_pos q, ih]
    · rw [if_neg q, if_neg q, ih]
theorem toPs_strs (c : List Str) : toPs (c.map D.str) = some (c.map PyData.str) := by
  induction c with
  | nil => rfl
  | cons a r ih => rw [List.map_cons, toPs, ih]; rfl
theorem toP_dT (c : List Str) : (dT c).toP = some (.list (c.map PyData.str)) := by
  show (toPs (c.map D.str)).map _ = _
  rw [toPs_strs]; rfl
theorem toP_lenT (c : List Str) : (lenT c).toP = some (.tuple [.int (c.length : Int), .list (c.map PyData.str)]) := by
  unfold lenT
  rw [D.toP, toPs, toPs, toPs, toP_dT]
  rfl
theorem alike_strs : ∀ a b : List Str, PySem.W.alikeAll (a.map PyData.str) (b.map PyData.str) = true
  | [], _ => by simp [PySem.W.alikeAll]
  | _ :: _, [] => by simp [PySem.W.alikeAll]
  | x :: a, y :: b => by
    rw [List.map_cons, List.map_cons, PySem.W.alikeAll, alike_strs a b]
    simp [PySem.W.alike]
theorem depth_strs : ∀ a : List Str, PyData.depthAll (a.map PyData.str) = 0
  | [] => by simp [PyData.depthAll]
  | x :: a => by rw [List.map_cons, PyData.depthAll, depth_strs a]; simp [PyData.depth]
theorem P_lenT (c : List Str) : (lenT c).P = .tuple [.int (c.length : Int), .list (c.map PyData.str)] := P_of (toP_lenT c)
theorem ok_lenT (cs : List (List Str)) : okO (cs.map lenT) = true := by
  unfold okO
  rw [List.all_eq_true]
  intro x hx
  obtain ⟨a, ha, rfl⟩ := List.mem_map.mp hx
  have h1 : (lenT a).toP.isSome = true := by rw [toP_lenT]; rfl
  have h2 : (lenT a).P.depth ≤ 60 := by
    rw [P_lenT]
    simp [PyData.depth, PyData.depthAll, depth_strs]
  have h3 : ((cs.map lenT).all fun b => PySem.W.alike (lenT a).P b.P) = true := by
    rw [List.all_eq_true]
    intro y hy
    obtain ⟨b, hb, rfl⟩ := List.mem_map.mp hy
    rw [P_lenT, P_lenT]
    simp [PySem.W.alike, PySem.W.alikeAll, alike_strs]
  rw [h1, h3, decide_eq_true h2]
  rfl
theorem gMin_lenT (c : List Str) (cs : List (List Str)) : gMinD [.lst (lenT c :: cs.map lenT)] = some (lenT (mnT c cs)) := by
  show (if okO (lenT c :: cs.map lenT) then some (mnD (lenT c) (cs.map lenT)) else none) = _
  have := ok_lenT (c :: cs)
  rw [List.map_cons] at this
  rw [if_pos this, mnD_lenT]
mutual
theorem eqv_eq : ∀ (p q : PyData), PySem.W.alike p q = true → PyData.eqv p q = true → p = q
  | .none, q, h, e => by cases q <;> first | rfl | (simp [PySem.W.alike] at h)
  | .bool a, q, h, e => by cases q <;> first | (exfalso; simp [PySem.W.alike] at h; done) | (simp [PyData.eqv] at e; rw [e])
  | .int a, q, h, e => by cases q <;> first | (exfalso; simp [PySem.W.alike] at h; done) | (simp [PyData.eqv] at e; rw [e])
  | .str a, q, h, e => by cases q <;> first | (exfalso; simp [PySem.W.alike] at h; done) | (simp [PyData.eqv] at e; rw [e])
  | .list xs, q, h, e => by
    cases q with
    | list ys =>
      rw [PySem.W.alike] at h
      rw [PyData.eqv] at e
      rw [eqvAll_eq xs ys h e]
    | _ => simp [PySem.W.alike] at h
  | .tuple xs, q, h, e => by
    cases q with
    | tuple ys =>
      rw [PySem.W.alike] at h
      rw [PyData.eqv] at e
      rw [eqvAll_eq xs ys h e]
    | _ => simp [PySem.W.alike] at h
  | .dict _, q, h, e => by cases q <;> simp [PySem.W.alike] at h
theorem eqvAll_eq : ∀ (p q : List PyData), PySem.W.alikeAll p q = true → PyData.eqvAll p q = true → p = q
  | [], [], _, _ => rfl
  | [], _ :: _, _, e => by simp [PyData.eqvAll] at e
  | _ :: _, [], _, e => by simp [PyData.eqvAll] at e
  | x :: xs, y :: ys, h, e => by
    rw [PySem.W.alikeAll, Bool.and_eq_true] at h
    rw [PyData.eqvAll, Bool.and_eq_true] at e
    rw [eqv_eq x y h.1 e.1, eqvAll_eq xs ys h.2 e.2]
end
theorem lay_shaped {a : D} {p : PyData} (l : Lay 64 a) (h : a.toP = some p) : PySem.SeqAt.shaped p = true := by
  obtain ⟨q, h1, h2, h3⟩ := l
  rw [h] at h1
  cases h1
  unfold PySem.SeqAt.shaped
  rw [h2, decide_eq_true h3]
  rfl
theorem gEq_cases {a b : D} (la : Lay 64 a) (lb : Lay 64 b) (al : PySem.W.alike a.P b.P = true) : ∃ k : Bool, gEq a b = some (.bl k) ∧ gNe a b = some (.bl (!k)) ∧ (k = true ↔ a = b) := by
  obtain ⟨p, h1, _⟩ := id la
  obtain ⟨q, h2, _⟩ := id lb
  rw [P_of h1, P_of h2] at al
  have dq : ∃ k, deq a b = some k ∧ (k = true ↔ a = b) := by
    unfold deq
    split
    · rename_i i j
      exact ⟨_, rfl, by simp⟩
    · rename_i x y
      exact ⟨_, rfl, by simp⟩
    · rw [h1, h2]
      simp only [lay_shaped la h1, lay_shaped lb h2, Bool.and_self, if_true]
      refine ⟨_, rfl, fun e => ?_, fun e => ?_⟩
      · have := eqv_eq p q al e
        subst this
        exact toP_inj h1 h2
      · subst e
        rw [h1] at h2
        cases h2
        exact PySem.W.eqv_refl_alike p al
  obtain ⟨k, k1, k2⟩ := dq
  refine ⟨k, ?_, ?_, k2⟩
  · unfold gEq; rw [k1]; rfl
  · unfold gNe; rw [k1]; rfl
theorem lay_dTs {cs : List (List Str)} (h : ∀ c ∈ cs, Tx c) : Lay 64 (.lst (cs.map dT)) := lay_lst (n := 63) fun x hx => by
  obtain ⟨c, hc, rfl⟩ := List.mem_map.mp hx
  exact lay_dT (h c hc).ok
theorem toPs_dTs (cs : List (List Str)) : toPs (cs.map dT) = some (cs.map fun c => PyData.list (c.map PyData.str)) := by
  induction cs with
  | nil => rfl
  | cons c r ih => rw [List.map_cons, toPs, toP_dT, ih]; rfl
theorem alike_dTs : ∀ a b : List (List Str), PySem.W.alikeAll (a.map fun c => PyData.list (c.map PyData.str)) (b.map fun c => PyData.list (c.map PyData.str)) = true
  | [], _ => by simp [PySem.W.alikeAll]
  | _ :: _, [] => by simp [PySem.W.alikeAll]
  | x :: a, y :: b => by
    rw [List.map_cons, List.map_cons, PySem.W.alikeAll, alike_dTs a b, PySem.W.alike, alike_strs]
    rfl
theorem P_dTs (cs : List (List Str)) : (D.lst (cs.map dT)).P = .list (cs.map fun c => PyData.list (c.map PyData.str)) := P_of (by rw [D.toP, toPs_dTs]; rfl)
theorem dT_inj {a b : List Str} (h : dT a = dT b) : a = b := by
  have : a.map D.str = b.map D.str := by injection h
  exact (List.map_inj_right (fun x y h => by cases h; rfl)).mp this
theorem dTs_inj {a b : List (List Str)} (h : D.lst (a.map dT) = D.lst (b.map dT)) : a = b := by
  have : a.map dT = b.map dT := by injection h
  exact (List.map_inj_right (fun x y h => dT_inj h)).mp this
theorem gEq_dTs {a b : List (List Str)} (ha : ∀ c ∈ a, Tx c) (hb : ∀ c ∈ b, Tx c) : gEq (.lst (a.map dT)) (.lst (b.map dT)) = some (.bl (decide (a = b))) := by
  obtain ⟨k, h1, _, h3⟩ := gEq_cases (lay_dTs ha) (lay_dTs hb) (by rw [P_dTs, P_dTs, PySem.W.alike, alike_dTs])
  rw [h1]
  congr 2
  rw [Bool.eq_iff_iff, h3, decide_eq_true_iff]
  exact ⟨dTs_inj, fun e => by rw [e]⟩
theorem gEq_dTs_nil {cs : List (List Str)} (h : ∀ c ∈ cs, Tx c) : gEq (.lst (cs.map dT)) (.lst []) = some (.bl (decide (cs = []))) := gEq_dTs (b := []) h (fun c hc => by cases hc)
section
variable {t w : List Str}
theorem tx_shB (ht : Tx t) (hw : Tx w) (f l : Nat) : Tx (shB t w f l) := by
  unfold shB
  refine (Tx.append ?_ ht).append ?_
  · split
    · exact hw.take _
    · exact fun x h => by cases h
  · split
    · exact hw.drop _
    · exact fun x h => by cases h
abbrev dTs (cs : List (List Str)) : D := .lst (cs.map dT)
theorem shown_row (ht : Tx t) (hw : Tx w) (w0 : w ≠ []) (hl : t.length ≤ 400) (hl2 : w.length ≤ 400) {f l : Nat} (hf : f ≤ w.length) (hl3 : l ≤ t.length) {cs : List (List Str)} (hc : cs.length ≤ 100) {x3 x4 x7 : Option D} :
    ∃ y7, B_shown_with_rests_v2_l1 [some (dT t), some (dT w), some (dTs cs), x3, x4, some (.int (f : Int)), some (.int (l : Int)), x7, none] = .ok .nx [some (dT t), some (dT w), some (dTs (cs ++ shR t w f l)), x3, x4, some (.int (f : Int)), some (.int (l : Int)), y7, none] := by
  have e1 : (t.length : Int) - (l : Int) = ((t.length - l : Nat) : Int) := by omega
  have cv := camid_val (b := f) (e := t.length - l) ht hw (by omega) (by omega)
  have hL : cs.length < LIM := by show _ < 100000; omega
  unfold shR
  by_cases q : t.length - l ≤ cam w.length f (lies t w)
  · rw [decide_eq_true q] at cv
    rw [if_pos q]
    -- what is put ahead, behind
    obtain ⟨A, a1, a2, a3, a4⟩ : ∃ A : List Str, (eIfE (tB (e2 gGt (eV 5) (eC (.int 0)))) (eSl (eV 1) oNone (oSome (e2 gSub (eN gLen (aCons (eV 1) aNil)) (eV 5)))) (eN gLst aNil)) [some (dT t), some (dT w), some (dTs cs), x3, x4, some (.int (f : Int)), some (.int (l : Int)), x7, none] = .ok (dT A) [some (dT t), some (dT w), some (dTs cs), x3, x4, some (.int (f : Int)), some (.int (l : Int)), x7, none] ∧ A = (if 0 < f then w.take (w.length - f) else []) ∧ A.length ≤ w.length ∧ Tx A := by
      by_cases z : 0 < f
      · have z' : (0 : Int) < f := by omega
        have e2 : (w.length : Int) - (f : Int) = ((w.length - f : Nat) : Int) := by omega
        refine ⟨w.take (w.length - f), ?_, by rw [if_pos z], by rw [List.length_take]; omega, hw.take _⟩
        simp [z, z', e2, cutA_map, cutA_to, -List.map_take]
      · have z' : ¬ (0 : Int) < f := by omega
        refine ⟨[], ?_, by rw [if_neg z], by simp, fun x h => by cases h⟩
        simp [z, z', hsz0]
    obtain ⟨B, b1, b2, b3, b4⟩ : ∃ B : List Str, (eIfE (tB (e2 gGt (eV 6) (eC (.int 0)))) (eSl (eV 1) (oSome (eV 6)) oNone) (eN gLst aNil)) [some (dT t), some (dT w), some (dTs cs), x3, x4, some (.int (f : Int)), some (.int (l : Int)), some (dT A), none] = .ok (dT B) [some (dT t), some (dT w), some (dTs cs), x3, x4, some (.int (f : Int)), some (.int (l : Int)), some (dT A), none] ∧ B = (if 0 < l then w.drop l else []) ∧ B.length ≤ w.length ∧ Tx B := by
      by_cases z : 0 < l
      · have z' : (0 : Int) < l := by omega
        refine ⟨w.drop l, ?_, by rw [if_pos z], by rw [List.length_drop]; omega, hw.drop _⟩
        simp [z, z', cutA_map, cutA_from, -List.map_drop]
      · have z' : ¬ (0 : Int) < l := by omega
        refine ⟨[], ?_, by rw [if_neg z], by simp, fun x h => by cases h⟩
        simp [z, z', hsz0]
    have L1 : A.length + t.length ≤ LIM := by show _ ≤ 100000; omega
    have L2 : (A ++ t).length + B.length ≤ LIM := by rw [List.length_append]; show _ ≤ 100000; omega
    refine ⟨some (dT A), ?_⟩
    have hsh : shB t w f l = A ++ t ++ B := by unfold shB; rw [← a2, ← b2]
    rw [hsh]
    generalize hS : A ++ t = S at L2
    have mS : A.map D.str ++ t.map D.str = S.map D.str := by rw [← hS, List.map_append]
    have mW : S.map D.str ++ B.map D.str = (S ++ B).map D.str := by rw [List.map_append]
    simp [B_shown_with_rests_v2_l1, e1, cv, a1, b1, L1, mS, L2, mW, hL, List.all_map, -r_eIfE, -List.map_append]
    simp
  · rw [decide_eq_false q] at cv
    rw [if_neg q]
    exact ⟨x7, by simp [B_shown_with_rests_v2_l1, e1, cv]⟩
theorem shR_len (f l : Nat) : (shR t w f l).length ≤ 1 := by unfold shR; split <;> simp
theorem for_step {tg : D → M Unit} {b : M Fl} {d : D} {r : List D} {e e1 e2 : PEnv} (h1 : tg d e = .ok () e1) (h2 : b e1 = .ok .nx e2) : sForL tg b (d :: r) e = sForL tg b r e2 := by
  rw [sForL, bnd_of_ok h1, bnd_of_ok h2]; rfl
theorem shown_in (ht : Tx t) (hw : Tx w) (w0 : w ≠ []) (hl : t.length ≤ 400) (hl2 : w.length ≤ 400) {f : Nat} (hf : f ≤ w.length) {cs : List (List Str)} (hc : cs.length ≤ 50) {x3 x6 x7 : Option D} :
    ∃ y6 y7, B_shown_with_rests_v2_l2 [some (dT t), some (dT w), some (dTs cs), x3, some (.int (hb t w : Nat)), some (.int (f : Int)), x6, x7, none] = .ok .nx [some (dT t), some (dT w), some (dTs (cs ++ (S2 (hb t w)).flatMap fun l => shR t w f l)), x3, some (.int (hb t w : Nat)), some (.int (f : Int)), y6, y7, none] := by
  have z2 : (2 : Nat) ≤ PySem.sizeLine := by decide
  have s2 := sort2 (hb t w)
  have hh := hb_le t w
  generalize hb t w = h at s2 hh
  obtain ⟨y7, r1⟩ := shown_row ht hw w0 hl hl2 hf (l := 0) (by omega) (cs := cs) (by omega) (x3 := x3) (x4 := some (.int (h : Int))) (x7 := x7)
  have sl := shR_len (t := t) (w := w) f 0
  obtain ⟨z7, r2⟩ := shown_row ht hw w0 hl hl2 hf (l := h) hh (cs := cs ++ shR t w f 0) (by rw [List.length_append]; omega) (x3 := x3) (x4 := some (.int (h : Int))) (x7 := y7)
  by_cases q : h = 0
  · subst q
    refine ⟨some (.int 0), y7, ?_⟩
    have r1 : B_shown_with_rests_v2_l1 [some (dT t), some (dT w), some (dTs cs), x3, some (.int 0), some (.int (f : Int)), some (.int 0), x7, none] = _ := r1
    have s2 : gSortSet [.lst [.int 0, .int 0]] = some (dN [0]) := s2
    have fl : (S2 0).flatMap (fun l => shR t w f l) = shR t w f 0 := by simp [S2]
    have g1 : sForL (tgN 6) B_shown_with_rests_v2_l1 [D.int 0] [some (dT t), some (dT w), some (dTs cs), x3, some (.int 0), some (.int (f : Int)), x6, x7, none] = .ok .nx [some (dT t), some (dT w), some (dTs (cs ++ shR t w f 0)), x3, some (.int 0), some (.int (f : Int)), some (.int 0), y7, none] := by
      rw [for_step (by simp) r1]; rfl
    rw [fl]
    simp [B_shown_with_rests_v2_l2, z2, s2, g1, -gSortSet_l]
  · refine ⟨some (.int (h : Int)), z7, ?_⟩
    have r1 : B_shown_with_rests_v2_l1 [some (dT t), some (dT w), some (dTs cs), x3, some (.int (h : Int)), some (.int (f : Int)), some (.int 0), x7, none] = _ := r1
    have fl : (S2 h).flatMap (fun l => shR t w f l) = shR t w f 0 ++ shR t w f h := by simp [S2, q]
    have s2 : gSortSet [.lst [.int 0, .int (h : Int)]] = some (.lst [.int 0, .int (h : Int)]) := by rw [s2]; simp [S2, q]
    have g1 : sForL (tgN 6) B_shown_with_rests_v2_l1 [D.int 0, .int (h : Int)] [some (dT t), some (dT w), some (dTs cs), x3, some (.int (h : Int)), some (.int (f : Int)), x6, x7, none] = .ok .nx [some (dT t), some (dT w), some (dTs (cs ++ shR t w f 0 ++ shR t w f h)), x3, some (.int (h : Int)), some (.int (f : Int)), some (.int (h : Int)), z7, none] := by
      rw [for_step (by simp) r1, for_step (by simp) r2]; rfl
    rw [fl, ← List.append_assoc]
    simp [B_shown_with_rests_v2_l2, z2, s2, g1, -gSortSet_l]
def shV (t w : List Str) : MV.FR := match shC t w with
  | [] => .ex (Str.ofString "NoCover") (dT t)
  | c :: cs => .ok (dT (mnT c cs)) (dT t)
theorem inR_len (f : Nat) : ((S2 (hb t w)).flatMap fun l => shR t w f l).length ≤ 2 := by
  have a := shR_len (t := t) (w := w) f 0
  have b := shR_len (t := t) (w := w) f (hb t w)
  unfold S2
  split
  · simp; omega
  · simp; omega
theorem ha_lew (t w : List Str) : ha t w ≤ w.length := Nat.le_trans (topL_le _ _) (by omega)
theorem tx_shC (ht : Tx t) (hw : Tx w) : ∀ c ∈ shC t w, Tx c := fun c hc => by
  unfold shC at hc
  rcases List.mem_append.mp hc with h | h
  · split at h
    · cases h
    · rw [List.mem_singleton.mp h]; exact hw
  · obtain ⟨f, _, h⟩ := List.mem_flatMap.mp h
    obtain ⟨l, _, h⟩ := List.mem_flatMap.mp h
    unfold shR at h
    split at h
    · rw [List.mem_singleton.mp h]; exact tx_shB ht hw f l
    · cases h
theorem shown_loop (ht : Tx t) (hw : Tx w) (w0 : w ≠ []) (hl : t.length ≤ 400) (hl2 : w.length ≤ 400) {cs : List (List Str)} (hc : cs.length ≤ 40) :
    ∃ y5 y6 y7, (sFor (iL (eF (eN gSortSet (aCons (eN gLst (aCons (eC (.int 0)) (aCons (eV 3) aNil))) aNil)))) (tgN 5) B_shown_with_rests_v2_l2) [some (dT t), some (dT w), some (dTs cs), some (.int (ha t w : Nat)), some (.int (hb t w : Nat)), none, none, none, none] = .ok .nx [some (dT t), some (dT w), some (dTs (cs ++ (S2 (ha t w)).flatMap fun f => (S2 (hb t w)).flatMap fun l => shR t w f l)), some (.int (ha t w : Nat)), some (.int (hb t w : Nat)), y5, y6, y7, none] := by
  have z2 : (2 : Nat) ≤ PySem.sizeLine := by decide
  have s2 := sort2 (ha t w)
  have hh := ha_lew t w
  have sl := inR_len (t := t) (w := w) 0
  obtain ⟨y6, y7, r1⟩ := shown_in ht hw w0 hl hl2 (f := 0) (by omega) (cs := cs) (by omega) (x3 := some (.int (ha t w : Nat))) (x6 := none) (x7 := none)
  obtain ⟨z6, z7, r2⟩ := shown_in ht hw w0 hl hl2 hh (cs := cs ++ (S2 (hb t w)).flatMap fun l => shR t w 0 l) (by rw [List.length_append]; omega) (x3 := some (.int (ha t w : Nat))) (x6 := y6) (x7 := y7)
  by_cases q : ha t w = 0
  · rw [q] at s2 r1 ⊢
    refine ⟨some (.int 0), y6, y7, ?_⟩
    have s2 : gSortSet [.lst [.int 0, .int 0]] = some (.lst [.int 0]) := s2
    have fl : (S2 0).flatMap (fun f => (S2 (hb t w)).flatMap fun l => shR t w f l) = (S2 (hb t w)).flatMap fun l => shR t w 0 l := by simp [S2]
    have r1 : B_shown_with_rests_v2_l2 [some (dT t), some (dT w), some (dTs cs), some (.int 0), some (.int (hb t w : Nat)), some (.int 0), none, none, none] = _ := r1
    have g1 : sForL (tgN 5) B_shown_with_rests_v2_l2 [D.int 0] [some (dT t), some (dT w), some (dTs cs), some (.int 0), some (.int (hb t w : Nat)), none, none, none, none] = .ok .nx [some (dT t), some (dT w), some (dTs (cs ++ (S2 (hb t w)).flatMap fun l => shR t w 0 l)), some (.int 0), some (.int (hb t w : Nat)), some (.int 0), y6, y7, none] := by
      rw [for_step (by simp) r1]; rfl
    rw [fl]
    simp [z2, s2, g1, -gSortSet_l]
  · refine ⟨some (.int (ha t w : Nat)), z6, z7, ?_⟩
    generalize ha t w = k at *
    have s2 : gSortSet [.lst [.int 0, .int (k : Int)]] = some (.lst [.int 0, .int (k : Int)]) := by rw [s2]; simp [S2, q]
    have fl : (S2 k).flatMap (fun f => (S2 (hb t w)).flatMap fun l => shR t w f l) = ((S2 (hb t w)).flatMap fun l => shR t w 0 l) ++ (S2 (hb t w)).flatMap fun l => shR t w k l := by simp [S2, q]
    have r1 : B_shown_with_rests_v2_l2 [some (dT t), some (dT w), some (dTs cs), some (.int (k : Int)), some (.int (hb t w : Nat)), some (.int 0), none, none, none] = _ := r1
    rw [fl, ← List.append_assoc]
    generalize (S2 (hb t w)).flatMap (fun l => shR t w 0 l) = P0 at *
    generalize (S2 (hb t w)).flatMap (fun l => shR t w k l) = P1 at *
    have g1 : sForL (tgN 5) B_shown_with_rests_v2_l2 [D.int 0, .int (k : Int)] [some (dT t), some (dT w), some (dTs cs), some (.int (k : Int)), some (.int (hb t w : Nat)), none, none, none, none] = .ok .nx [some (dT t), some (dT w), some (dTs (cs ++ P0 ++ P1)), some (.int (k : Int)), some (.int (hb t w : Nat)), some (.int (k : Int)), z6, z7, none] := by
      rw [for_step (by simp) r1, for_step (by simp) r2]; rfl
    simp [z2, s2, g1, -gSortSet_l]
theorem mn_lc (cs : List (List Str)) (hc : cs.length ≤ 1000) {e : PEnv} (he : e.length = 9) (h8 : e.set 8 none = e) : lcGo [8] (tgN 8) tTrue (eN gTupD (aCons (eN gLen (aCons (eV 8) aNil)) (aCons (eV 8) aNil))) (cs.map dT) [] e = .ok (cs.map lenT) e := by
  have z2 : (2 : Nat) ≤ PySem.sizeLine := by decide
  have := lc_pure (is := [8]) (tg := tgN 8) (t := tTrue) (fe := eN gTupD (aCons (eN gLen (aCons (eV 8) aNil)) (aCons (eV 8) aNil))) (e := e) (φ := dT) (p := fun _ => true) (g := lenT) cs [] (by simp; show _ ≤ 100000; omega)
    (fun c _ => ⟨e.set 8 (some (dT c)), e.set 8 (some (dT c)), rfl, rfl, fun _ => ⟨e.set 8 (some (dT c)), by
      have g8 : (e.set 8 (some (dT c)))[8]? = some (some (dT c)) := by rw [List.getElem?_set_self (by omega)]
      simp [g8, z2, lenT], by simp [h8]⟩, fun h => by cases h⟩)
  rw [List.filter_eq_self.mpr (fun _ _ => rfl)] at this
  simpa using this
theorem shC_len : (shC t w).length ≤ 5 := by
  unfold shC
  rw [List.length_append]
  have h1 : (if lies w t = [] then ([] : List (List Str)) else [w]).length ≤ 1 := by split <;> simp
  have h2 : ((S2 (ha t w)).flatMap fun f => (S2 (hb t w)).flatMap fun l => shR t w f l).length ≤ 4 := by
    have a := inR_len (t := t) (w := w) 0
    have b := inR_len (t := t) (w := w) (ha t w)
    conv => lhs; rw [show S2 (ha t w) = if ha t w = 0 then [0] else [0, ha t w] from rfl]
    split
    · simp only [List.flatMap_cons, List.flatMap_nil, List.append_nil]; omega
    · simp only [List.flatMap_cons, List.flatMap_nil, List.append_nil, List.length_append]; omega
  omega
theorem shown_val (ht : Tx t) (hw : Tx w) (t0 : t ≠ []) (w0 : w ≠ []) (hl : t.length ≤ 400) (hl2 : w.length ≤ 400) : F_shown_with_rests_v2 [dT t, dT w] = shV t w := by
  have z2 : (2 : Nat) ≤ PySem.sizeLine := by decide
  have wv := within_val ht hw (by omega) (by omega)
  obtain ⟨y5, y6, y7, r1⟩ := shown_loop ht hw w0 hl hl2 (cs := if lies w t = [] then [] else [w]) (by split <;> simp)
  have tc := tx_shC ht hw
  have lc := shC_len (t := t) (w := w)
  have hC : (if lies w t = [] then ([] : List (List Str)) else [w]) ++ ((S2 (ha t w)).flatMap fun f => (S2 (hb t w)).flatMap fun l => shR t w f l) = shC t w := rfl
  rw [hC] at r1
  have eqn := gEq_dTs_nil tc
  unfold shV
  generalize shC t w = C at *
  have h2 : (sIf (tB (eCall F_is_within (aCons (eV 0) (aCons (eV 1) aNil)))) (sApp 2 (eF (eN gList1 (aCons (eV 1) aNil)))) sSkip) [some (dT t), some (dT w), some (.lst []), none, none, none, none, none, none] = .ok .nx [some (dT t), some (dT w), some (dTs (if lies w t = [] then [] else [w])), none, none, none, none, none, none] := by
    by_cases q : lies w t = []
    · simp [wv, q]
    · have L0 : (0 : Nat) < LIM := by decide
      simp [wv, q, List.all_map, L0]
  simp only [F_shown_with_rests_v2, r_runF, B_shown_with_rests_v2]
  have nb := need_both_val ht hw t0 w0 (by omega) (by omega)
  have hha := hung_ahead_val ht hw w0 (by omega) (by omega)
  have hhb := hung_behind_val ht hw w0 (by omega) (by omega)
  cases C with
  | nil =>
    have eqn : gEq (dTs []) (.lst []) = some (.bl true) := eqn
    simp [nb, hsz0, h2, hha, hhb, r1, -r_sIf, -r_sFor]
    simp [r_sIf, hsz0, sRaise, eqn]
  | cons c cs =>
    have eqn : gEq (dTs (c :: cs)) (.lst []) = some (.bl false) := eqn
    have ml := mn_lc (c :: cs) (by omega) (e := [some (dT t), some (dT w), some (dTs (c :: cs)), some (.int (ha t w : Nat)), some (.int (hb t w : Nat)), y5, y6, y7, none]) rfl rfl
    have gm := gMin_lenT c cs
    simp [nb, hsz0, h2, hha, hhb, r1, -r_sIf, -r_sFor]
    simp only [List.map_cons] at eqn ml
    simp [r_sIf, hsz0, eqn, ml, gm]
    simp [lenT]
end
end Ov
namespace Ov
open PySem (Str)
open MV
def Oc (t : List Str) (s p : Nat) : Prop := ∀ j, j < s → t[p + j]? = t[j]?
instance (t : List Str) (s p : Nat) : Decidable (Oc t s p) := Nat.decidableBallLT s fun j _ => t[p + j]? = t[j]?
def Cvr (t : List Str) (s e : Nat) : Prop := 1 ≤ s ∧ s ≤ e ∧ e ≤ t.length ∧ ∀ i, i < e → ∃ p, p ≤ i ∧ i < p + s ∧ p + s ≤ e ∧ Oc t s p
def rch (t : List Str) (s e : Nat) : Nat := reach s 0 ((lies t (t.take s)).filter fun p => decide (p + s ≤ e))
theorem Cvr.suffix {t : List Str} {s e : Nat} (h : Cvr t s e) : Oc t s (e - s) := by
  obtain ⟨h1, h2, h3, h4⟩ := h
  obtain ⟨p, a1, a2, a3, a4⟩ := h4 (e - 1) (by omega)
  rw [show e - s = p by omega]; exact a4
theorem Cvr.trans {t : List Str} {s g e : Nat} (h : Cvr t s g) (h2 : Cvr t g e) : Cvr t s e := by
  obtain ⟨a1, a2, a3, a4⟩ := h
  obtain ⟨b1, b2, b3, b4⟩ := h2
  refine ⟨a1, by omega, b3, fun i hi => ?_⟩
  obtain ⟨p, c1, c2, c3, c4⟩ := b4 i hi
  obtain ⟨q, d1, d2, d3, d4⟩ := a4 (i - p) (by omega)
  refine ⟨p + q, by omega, by omega, by omega, fun j hj => ?_⟩
  rw [Nat.add_assoc, c4 (q + j) (by omega), d4 j hj]
theorem Cvr.isB {t : List Str} {s e : Nat} (h : Cvr t s e) (hl : s < e) : isB t e s := by
  have hs := h.suffix
  exact ⟨hl, h.2.2.1, fun j hj => (hs j hj).symm⟩
end Ov
namespace Ov
open PySem (Str PyData)
open MV
theorem cam_ge (w : Nat) : ∀ (L : List Nat) (b : Nat), b ≤ cam w b L
  | [], b => Nat.le_refl _
  | p :: L, b => by
    unfold cam
    rw [List.foldl_cons]
    have := cam_ge w L (if p ≤ b then max b (p + w) else b)
    unfold cam at this
    refine Nat.le_trans ?_ this
    split <;> omega
theorem cam_in (w : Nat) : ∀ (L : List Nat) (b i : Nat), i < cam w b L → i < b ∨ ∃ p ∈ L, p ≤ i ∧ i < p + w
  | [], b, i, h => .inl h
  | p :: L, b, i, h => by
    have h : i < cam w (if p ≤ b then max b (p + w) else b) L := h
    rcases cam_in w L _ i h with h | ⟨q, h1, h2⟩
    · split at h
      · rename_i hp
        by_cases hi : i < b
        · exact .inl hi
        · exact .inr ⟨p, List.mem_cons_self, by omega, by omega⟩
      · exact .inl h
    · exact .inr ⟨q, List.mem_cons_of_mem _ h1, h2⟩
theorem cam_stop (w : Nat) : ∀ (L : List Nat) (b : Nat), (∀ p ∈ L, b < p) → cam w b L = b
  | [], b, _ => rfl
  | p :: L, b, h => by
    have h1 := h p List.mem_cons_self
    show cam w (if p ≤ b then max b (p + w) else b) L = b
    rw [if_neg (by omega)]
    exact cam_stop w L b fun q hq => h q (List.mem_cons_of_mem _ hq)
theorem cam_out (w : Nat) : ∀ (L : List Nat) (b : Nat), Srt L → ∀ p ∈ L, p ≤ cam w b L → p + w ≤ cam w b L
  | [], b, _, p, hp, _ => by cases hp
  | q :: L, b, hs, p, hp, h => by
    have hs := List.pairwise_cons.mp hs
    have e : cam w b (q :: L) = cam w (if q ≤ b then max b (q + w) else b) L := rfl
    rw [e] at h ⊢
    rcases List.mem_cons.mp hp with rfl | hp
    · by_cases hb : p ≤ b
      · rw [if_pos hb] at h ⊢
        have := cam_ge w L (max b (p + w))
        omega
      · rw [if_neg hb] at h ⊢
        rw [cam_stop w L b fun r hr => by have := hs.1 r hr; omega] at h
        omega
    · exact cam_out w L _ hs.2 p hp h
theorem cam_iff {w b e : Nat} {L : List Nat} (hs : Srt L) : e ≤ cam w b L ↔ ∀ i, i < e → i < b ∨ ∃ p ∈ L, p ≤ i ∧ i < p + w := by
  constructor
  · exact fun h i hi => cam_in w L b i (by omega)
  · intro h
    by_cases q : e ≤ cam w b L
    · exact q
    · exfalso
      rcases h (cam w b L) (by omega) with h1 | ⟨p, h1, h2, h3⟩
      · have := cam_ge w L b; omega
      · have := cam_out w L b hs p h1 h2; omega
section
variable (t w : List Str)
def ngv (k : Nat) : Prop := 1 ≤ k ∧ k < w.length ∧ (w.drop (w.length - k)).take t.length = t.take k
def psv (p : Nat) : Prop := p < t.length ∧ (t.drop p).take w.length = w.take (t.length - p)
end
section
variable {t w : List Str}
theorem psv_lies {p : Nat} (h : p + w.length ≤ t.length) (h0 : 0 < w.length) : psv t w p ↔ p ∈ lies t w := by
  unfold psv lies
  rw [List.mem_filter, List.mem_range, decide_eq_true_iff, List.take_of_length_le (l := w) (by omega)]
  constructor
  · exact fun h2 => ⟨by omega, h2.2⟩
  · exact fun h2 => ⟨by omega, h2.2⟩
theorem psv_hb {p : Nat} (hp : p < t.length) (h : t.length < p + w.length) : psv t w p ↔ hbB t w (t.length - p) = true := by
  unfold psv hbB
  rw [decide_eq_true_iff, List.take_of_length_le (l := t.drop p) (by rw [List.length_drop]; omega), show t.length - (t.length - p) = p by omega]
  exact ⟨fun h2 => h2.2.symm, fun h2 => ⟨hp, h2.symm⟩⟩
theorem ngv_ha {k : Nat} (h1 : 1 ≤ k) (h2 : k < w.length) (h3 : k ≤ t.length) : ngv t w k ↔ haB t w k = true := by
  unfold ngv haB
  rw [decide_eq_true_iff, List.take_of_length_le (l := w.drop _) (by rw [List.length_drop]; omega)]
  exact ⟨fun h => h.2.2, fun h => ⟨h1, h2, h⟩⟩
theorem hb_max {p : Nat} (hp : p < t.length) (h : t.length < p + w.length) (h2 : psv t w p) : t.length - p ≤ hb t w := topL_max _ _ _ (by omega) (by omega) ((psv_hb hp h).mp h2)
theorem ha_max {k : Nat} (h : ngv t w k) (h3 : k ≤ t.length) : k ≤ ha t w := topL_max _ _ _ h.1 (by have := h.2.1; omega) ((ngv_ha h.1 h.2.1 h3).mp h)
theorem hb_psv (h : hb t w ≠ 0) : psv t w (t.length - hb t w) ∧ t.length - hb t w < t.length ∧ t.length < t.length - hb t w + w.length := by
  have h1 := topL_yes _ _ h
  have h2 := topL_le (hbB t w) (min t.length (w.length - 1))
  have h3 : hb t w = topL (hbB t w) (min t.length (w.length - 1)) := rfl
  rw [← h3] at h1 h2
  have a : t.length - hb t w < t.length := by omega
  have b : t.length < t.length - hb t w + w.length := by omega
  refine ⟨(psv_hb a b).mpr ?_, a, b⟩
  rw [show t.length - (t.length - hb t w) = hb t w by omega]
  exact h1
theorem ha_ngv (h : ha t w ≠ 0) : ngv t w (ha t w) ∧ ha t w ≤ t.length := by
  have h1 := topL_yes _ _ h
  have h2 := topL_le (haB t w) (min t.length (w.length - 1))
  have h3 : ha t w = topL (haB t w) (min t.length (w.length - 1)) := rfl
  rw [← h3] at h1 h2
  exact ⟨(ngv_ha (by omega) (by omega) (by omega)).mpr h1, by omega⟩
theorem mem_lies_iff {p : Nat} : p ∈ lies t w ↔ p + w.length ≤ t.length ∧ (t.drop p).take w.length = w := by
  unfold lies
  rw [List.mem_filter, List.mem_range, decide_eq_true_iff]
  constructor
  · exact fun h => ⟨by omega, h.2⟩
  · exact fun h => ⟨by omega, h.2⟩
end
end Ov
namespace Ov
open PySem (Str PyData)
open MV
theorem fold_filter {α β : Type} (p : α → Bool) (f : β → α → β) : ∀ (l : List α) (b : β), l.foldl (fun d x => if p x = true then f d x else d) b = (l.filter p).foldl f b
  | [], b => rfl
  | x :: l, b => by
    rw [List.foldl_cons, fold_filter p f l, List.filter_cons]
    split <;> rfl
section
variable {t w : List Str}
theorem is_covered_val (ht : Tx t) (hw : Tx w) (w0 : 0 < w.length) (hl : t.length ≤ 2000) (hl2 : w.length ≤ 2000) : F__law_is_covered [dT t, dT w] = .ok (.bl (decide (t.length ≤ reach w.length 0 (lies t w)))) (dT t) := by
  have hs : smallI ((t.length : Int) - (w.length : Int) + 1) = true := small_of (by omega) (by omega)
  have e1 : ((t.length : Int) - (w.length : Int) + 1).toNat = t.length + 1 - w.length := by omega
  obtain ⟨e', g1, y3, rfl⟩ := for_fold (tg := tgN 3) (b := B__law_is_covered_l1) (φ := fun k : Nat => D.int (k : Int)) (fun (d : Nat) env => ∃ y3, env = [some (dT t), some (dT w), some (.int (d : Int)), y3]) (fun d p => if decide ((t.drop p).take w.length = w) = true then (if p ≤ d then p + w.length else d) else d) (List.range (t.length + 1 - w.length)) 0 [some (dT t), some (dT w), some (.int 0), none] ⟨none, rfl⟩
    (fun d p env hm hr => by
      obtain ⟨y3, rfl⟩ := hr
      have cm : cutA t (some (p : Int)) (some ((p : Int) + (w.length : Int))) = (t.drop p).take w.length := cutA_mid2 t p w.length
      have eq := gEq_dT ((ht.drop p).take w.length).ok hw.ok
      refine ⟨_, _, .nx, rfl, ?_, .inl rfl, some (.int (p : Int)), rfl⟩
      generalize (t.drop p).take w.length = O at cm eq
      by_cases q : p ≤ d
      · have q' : (p : Int) ≤ d := by omega
        by_cases q2 : O = w
        · rw [decide_eq_true q2] at eq ⊢
          simp [B__law_is_covered_l1, q, q', cutA_map, cm, eq]
        · rw [decide_eq_false q2] at eq ⊢
          simp [B__law_is_covered_l1, q, q', cutA_map, cm, eq]
      · have q' : ¬ (p : Int) ≤ d := by omega
        simp [B__law_is_covered_l1, q, q'])
  rw [fold_filter, reach_fold, ← rng0] at g1
  have hl : (List.range (t.length + 1 - w.length)).filter (fun p => decide ((t.drop p).take w.length = w)) = lies t w := rfl
  rw [hl] at g1
  have g1 : sForL (tgN 3) B__law_is_covered_l1 (rngD 0 (t.length + 1 - w.length)) [some (dT t), some (dT w), some (.int 0), none] = .ok .nx [some (dT t), some (dT w), some (.int (reach w.length 0 (lies t w) : Nat)), y3] := g1
  simp only [F__law_is_covered, r_runF, B__law_is_covered]
  have z : decide ((t.length : Int) ≤ (reach w.length 0 (lies t w) : Nat)) = decide (t.length ≤ reach w.length 0 (lies t w)) := decide_eq_decide.mpr (by omega)
  simp [hs, e1, g1, z]
end
end Ov
namespace Ov
open PySem (Str PyData)
open MV
section
variable {t w : List Str}
def trC (t w : List Str) (a b : Nat) : List Str := w.take a ++ t ++ w.drop (w.length - b)
def cvd (t w : List Str) : Bool := decide (t.length ≤ reach w.length 0 (lies t w))
theorem cvd_iff {t w : List Str} : cvd t w = true ↔ ∀ j, j < t.length → ∃ q ∈ lies t w, q ≤ j ∧ j < q + w.length := by
  unfold cvd
  have hs := srt_lies t w
  rw [decide_eq_true_iff, ← reach_max w.length _ 0 hs (fun p _ => by omega)]
  have e : (lies t w).foldl (fun r p => if p ≤ r then max r (p + w.length) else r) 0 = cam w.length 0 (lies t w) := rfl
  rw [e, cam_iff hs]
  refine forall_congr' fun i => forall_congr' fun hi => ?_
  simp
theorem lies_split {e X Y : List Str} (h : e = X ++ w ++ Y) : X.length ∈ lies e w := by
  rw [mem_lies_iff, h]
  constructor
  · rw [List.length_append, List.length_append]; omega
  · rw [List.append_assoc, List.drop_append_of_le_length (Nat.le_refl _), List.drop_length, List.nil_append, List.take_append_of_le_length (Nat.le_refl _), List.take_length]
theorem lies_parts {p : Nat} (h : p ∈ lies t w) : t = t.take p ++ w ++ t.drop (p + w.length) := by
  obtain ⟨h1, h2⟩ := mem_lies_iff.mp h
  have a : t = t.take p ++ t.drop p := (List.take_append_drop p t).symm
  have b : t.drop p = (t.drop p).take w.length ++ (t.drop p).drop w.length := (List.take_append_drop _ _).symm
  rw [h2, List.drop_drop] at b
  rw [List.append_assoc]
  conv => lhs; rw [a, b]
theorem trC_at {a b : Nat} (ha : a ≤ w.length) {j : Nat} (h1 : a ≤ j) (h2 : j < a + t.length) : (trC t w a b)[j]? = t[j - a]? := by
  unfold trC
  have la : (w.take a).length = a := by rw [List.length_take]; omega
  rw [List.append_assoc, List.getElem?_append_right (by omega), la, List.getElem?_append_left (by omega)]
theorem lies_get {e : List Str} {q r : Nat} (h : q ∈ lies e w) (hr : r < w.length) : e[q + r]? = w[r]? := by
  obtain ⟨_, h2⟩ := mem_lies_iff.mp h
  have := congrArg (fun l => l[r]?) h2
  simp only [List.getElem?_take, List.getElem?_drop, if_pos hr] at this
  exact this
end
end Ov
namespace Ov
open PySem (Str PyData)
open MV
abbrev xs21 : List Str := [(Str.ofString "NoWord"), (Str.ofString "NoSign"), (Str.ofString "NoText"), (Str.ofString "NoCover"), (Str.ofString "TooMany")]
inductive Nm : Str → Str → Prop
  | word : Nm (Str.ofString "NoWord") (Str.ofString "word")
  | sign : Nm (Str.ofString "NoSign") (Str.ofString "sign")
  | text : Nm (Str.ofString "NoText") (Str.ofString "text")
  | cover : Nm (Str.ofString "NoCover") (Str.ofString "cover")
  | many : Nm (Str.ofString "TooMany") (Str.ofString "many")
theorem Nm.mem {c n : Str} (h : Nm c n) : c ∈ xs21 := by
  cases h <;> simp [xs21]
theorem Gd.filter {t : List Str} (h : Gd t) (p : Str → Bool) : Gd (t.filter p) := fun x hx => h x (List.mem_filter.mp hx).1
theorem lay_two' {a b : List Str} (ha : Gd a) (hb : Gd b) : Lay 64 (.lst [dT a, dT b]) := lay_lst (n := 63) fun x hx => by
  rcases List.mem_cons.mp hx with rfl | hx
  · exact lay_dT ha.ok
  · rw [List.mem_singleton.mp hx]; exact lay_dT hb.ok
theorem Gd.take {t : List Str} (h : Gd t) (k : Nat) : Gd (t.take k) := fun x hx => h x (List.mem_of_mem_take hx)
theorem Gd.drop {t : List Str} (h : Gd t) (k : Nat) : Gd (t.drop k) := fun x hx => h x (List.mem_of_mem_drop hx)
end Ov
namespace Ov
open PySem (Str PyData)
open MV
theorem cell_at_ok (ns : List Int) (k : Nat) : ∃ x io, F__law_cell_at [.lst (ns.map .int), .int (k : Int)] = .ok (.int x) io := by
  by_cases q : k < ns.length
  · have q' : (k : Int) < (ns.length : Int) := by omega
    have h1 : L2.atI (ns.map D.int) (k : Int) = some (.int ns[k]) := by rw [atI_eq, List.getElem?_map, List.getElem?_eq_getElem q]; rfl
    refine ⟨ns[k], .lst (ns.map .int), ?_⟩
    simp only [F__law_cell_at, r_runF, B__law_cell_at]
    simp [q, q', h1]
  · have q' : ¬ (k : Int) < (ns.length : Int) := by omega
    refine ⟨0, .lst (ns.map .int), ?_⟩
    simp only [F__law_cell_at, r_runF, B__law_cell_at]
    simp [q, q']
theorem cells_seq (ns : List Int) (hl : ns.length ≤ 63) (m : Nat) : ∃ cs : List Int, ∀ (xs : List (Option D)), (iL (e2 gAdd (eSlQ 0 oNone (oSome (eC (.int (m : Int))))) (eN gLst (aCons (eCallQ F__law_cell_at 0 (aCons (eC (.int 0)) aNil)) aNil)))) (some (.lst (ns.map .int)) :: xs) = .ok (cs.map .int) (some (.lst (ns.map .int)) :: xs) := by
  obtain ⟨x, io, h⟩ := cell_at_ok ns 0
  have h : F__law_cell_at [.lst (ns.map .int), .int 0] = .ok (.int x) io := h
  have z1 : (1 : Nat) ≤ PySem.sizeLine := by decide
  have hc := cutA_len ns none (some (m : Int))
  have L1 : (cutA ns none (some (m : Int))).length + 1 ≤ LIM := by show _ ≤ 100000; omega
  refine ⟨cutA ns none (some (m : Int)) ++ [x], fun xs => ?_⟩
  simp [cutA_map, List.all_map, h, z1, L1]
end Ov
namespace Ov
open PySem (Str PyData)
open MV
end Ov
namespace Ov
open PySem (Str)
open MV
def PL (P : Nat → Nat → Prop) (L : List Nat) (n : Nat) : Prop := L.length = n ∧ ∀ m, m < n → ∃ g, L[m]? = some g ∧ P (m + 1) g
theorem PL.at {P : Nat → Nat → Prop} {L : List Nat} {n m : Nat} (h : PL P L n) (hm : m < n) : ∃ g : Nat, L2.atI (L.map fun k : Nat => D.int (k : Int)) (m : Int) = some (.int (g : Nat)) ∧ P (m + 1) g := by
  obtain ⟨g, g1, g2⟩ := h.2 m hm
  have hgl : m < L.length := by rw [h.1]; exact hm
  refine ⟨g, ?_, g2⟩
  rw [dN_at hgl]
  rw [List.getElem?_eq_getElem hgl] at g1; rw [Option.some.inj g1]
def rho (t : List Str) (s e : Nat) : Nat := if s ≤ e then (if s = 0 then 0 else rch t s e) else s
end Ov
namespace Ov
open PySem (Str)
open MV
def RL (t : List Str) (e k : Nat) (Rl : List Nat) : Prop := Rl.length = t.length + 1 ∧ ∀ s, s ≤ t.length → ∃ x, Rl[s]? = some x ∧ (isB t (e + 1) s ∧ k < s → x = rho t s (e + 1)) ∧ (¬ (isB t (e + 1) s ∧ k < s) → x = rho t s e)
theorem RL.step {t : List Str} {e k k' y : Nat} {Rl : List Nat} (h : RL t e k Rl) (hk : isB t (e + 1) k) (hg : isG t k k') (hy : y = rho t k (e + 1)) : RL t e k' (Rl.set k y) := by
  refine ⟨by rw [List.length_set]; exact h.1, fun s hs => ?_⟩
  have hkl : k < Rl.length := by rw [h.1]; have := hk.1; have := hk.2.1; omega
  have hlt := hg.1.1
  by_cases c : s = k
  · subst c
    refine ⟨y, by rw [List.getElem?_set_self hkl], fun _ => hy, fun q => absurd ⟨hk, hlt⟩ q⟩
  · obtain ⟨x, x1, x2, x3⟩ := h.2 s hs
    refine ⟨x, by rw [List.getElem?_set_ne (Ne.symm c)]; exact x1, fun q => ?_, fun q => ?_⟩
    · refine x2 ⟨q.1, ?_⟩
      by_cases d : s < k
      · have := hg.2 s (isB_down hk q.1 d); omega
      · omega
    · exact x3 fun z => q ⟨z.1, by omega⟩
end Ov
namespace Ov
open PySem (Str PyData)
open MV
end Ov
namespace Ov
open PySem (Str PyData)
open MV
theorem sIx_neg (n d k : Nat) (h : 0 < k) : HT.sIx n d (some (-(k : Int))) = n - k := by
  show (if -(k : Int) < 0 then (-(k : Int) + (n : Int)).toNat else min (-(k : Int)).toNat n) = n - k
  rw [if_pos (by omega)]
  omega
theorem cutA_neg_from {α : Type} (l : List α) (k : Nat) (h : 0 < k) : cutA l (some (-(k : Int))) none = l.drop (l.length - k) := by
  unfold cutA
  rw [HT.sIx_none, sIx_neg _ _ _ h, List.take_of_length_le (by rw [List.length_drop]; omega)]
section
variable {t w : List Str}
def b3 (t w : List Str) : D := .lst [.bl (rbV t w), .bl (raV t w), .bl (cbV t w)]
end
end Ov
namespace Ov
open PySem (Str)
open MV
def Ql (t : List Str) (s e x : Nat) : Prop := (x = 0 ∧ ∀ s', s' ≤ s → ¬ Cvr t s' e) ∨ (x ≤ s ∧ Cvr t x e ∧ ∀ s', Cvr t s' e → x ≤ s')
def Qg (t : List Str) (s e x : Nat) : Prop := (x = 0 ∨ (x < e ∧ Cvr t x e)) ∧ ∀ s', s' ≤ s → s' < e → Cvr t s' e → s' ≤ x
section
variable {t : List Str} {s e x : Nat}
theorem Ql.upd (hs : 1 ≤ s) (hc : Cvr t s e) (h : Ql t (s - 1) e x ∨ Ql t s e x) : Ql t s e (if x = 0 then s else x) := by
  have nz : ∀ {u : Nat}, Cvr t u e → u ≠ 0 := fun h => by have := h.1; omega
  by_cases c : x = 0
  · rw [if_pos c]
    refine .inr ⟨Nat.le_refl _, hc, fun s' h' => ?_⟩
    rcases h with (h | h) | (h | h)
    · by_cases d : s ≤ s'
      · exact d
      · exact absurd h' (h.2 s' (by omega))
    · exact absurd c (nz h.2.1)
    · exact absurd hc (h.2 s (Nat.le_refl _))
    · exact absurd c (nz h.2.1)
  · rw [if_neg c]
    rcases h with (h | h) | (h | h)
    · exact absurd h.1 c
    · exact .inr ⟨by omega, h.2⟩
    · exact absurd h.1 c
    · exact .inr h
theorem Qg.upd (hs : 1 ≤ s) (hc : Cvr t s e) (h : Qg t (s - 1) e x ∨ Qg t s e x) : Qg t s e (if s < e then s else x) := by
  by_cases c : s < e
  · rw [if_pos c]
    exact ⟨.inr ⟨c, hc⟩, fun s' h1 _ _ => h1⟩
  · rw [if_neg c]
    have := hc.2.1
    rcases h with h | h
    · exact ⟨h.1, fun s' h1 h2 h3 => h.2 s' (by omega) h2 h3⟩
    · exact h
end
def Mid (Q : Nat → Nat → Nat → Prop) (s : Nat) (E : List Nat) (A : List Nat) (n : Nat) : Prop := A.length = n ∧ ∀ m, m < n → ∃ x, A[m]? = some x ∧ (Q (s - 1) (m + 1) x ∨ Q s (m + 1) x) ∧ (m + 1 ∈ E → Q s (m + 1) x)
theorem Mid.set {Q : Nat → Nat → Nat → Prop} {s m n : Nat} {E A : List Nat} (h : Mid Q s E A n) (hm : m < n) {y : Nat} (hy : Q s (m + 1) y) : Mid Q s (E ++ [m + 1]) (A.set m y) n := by
  refine ⟨by rw [List.length_set]; exact h.1, fun k hk => ?_⟩
  by_cases c : m = k
  · subst c
    exact ⟨y, by rw [List.getElem?_set_self (by rw [h.1]; exact hm)], .inr hy, fun _ => hy⟩
  · obtain ⟨x, x1, x2, x3⟩ := h.2 k hk
    refine ⟨x, by rw [List.getElem?_set_ne c]; exact x1, x2, fun z => ?_⟩
    rcases List.mem_append.mp z with z | z
    · exact x3 z
    · exact absurd (List.mem_singleton.mp z) (by omega)
end Ov
namespace Ov
open PySem (Str PyData)
open MV
end Ov
namespace Ov
open PySem (Str)
open MV
def ov (w : Nat) (L : List Nat) (i : Nat) : Bool := L.any fun p => decide (p ≤ i) && decide (i < p + w)
end Ov
namespace Ov
open PySem (Str PyData)
open MV
end Ov
namespace Ov
open PySem (Str)
open MV
section
variable {f g : M D} {lo hi : M (Option Int)} {e : PEnv} {n m : Nat}
end
def Rows (rows : List (List Int)) (k : Nat) : Prop := rows.length = k ∧ ∀ r ∈ rows, r.length ≤ 2000
end Ov
namespace Ov
open PySem (Str PyData)
open MV
def kvsF (n : Nat) : List Str → List (L2.Key × D)
  | [] => []
  | x :: r => (Sum.inl (n : Int), .str x) :: kvsF (n + 1) r
abbrev dS (s : List Str) : D := .dic (kvsF 0 s)
def ovl (s : List Str) (p : Nat) (w : List Str) : List Str := s.take p ++ w ++ s.drop (p + w.length)
def shw (w : List Str) (ch : List Nat) : List Str := ch.foldl (fun s p => ovl s p w) []
def Rising (m : Nat) : Nat → List Nat → Prop
  | _, [] => True
  | L, p :: r => p ≤ L ∧ Rising m (max L (p + m)) r
theorem Rising.take {m : Nat} : ∀ {ch : List Nat} {L : Nat} (n : Nat), Rising m L ch → Rising m L (ch.take n)
  | _, _, 0, _ => trivial
  | [], _, n + 1, _ => trivial
  | p :: r, L, n + 1, h => ⟨h.1, Rising.take n h.2⟩
end Ov
namespace Ov
open PySem (Str PyData)
open MV
def mism (a b : List Str) : Nat := ((a.zip b).filter fun p => !decide (p.1 = p.2)).length
theorem mism_nil (b : List Str) : mism [] b = 0 := rfl
theorem mism_cons (x y : Str) (a b : List Str) : mism (x :: a) (y :: b) = (if x = y then 0 else 1) + mism a b := by
  unfold mism
  rw [List.zip_cons_cons, List.filter_cons]
  by_cases h : x = y
  · simp [h]
  · simp [h]; omega
def wrV (t w : List Str) (p s : Nat) : Nat := mism (t.drop (p + s)) (w.drop s)
def Stp' (w : List Str) : Nat → List Nat → Prop
  | _, [] => True
  | a, b :: r => (∃ d ∈ wayson w, b = a + d) ∧ Stp' w b r
def lastN (a : Nat) : List Nat → Nat
  | [] => a
  | b :: r => lastN b r
theorem wayson_shift {w : List Str} {d : Nat} (h : d ∈ wayson w) : w.drop d = w.take (w.length - d) := by
  unfold wayson at h
  simpa using (List.mem_filter.mp h).2
theorem ovl_next {S w : List Str} {a d : Nat} (hS : S.length = a + w.length) (hd : S.drop a = w) (h : d ∈ wayson w) : ovl S (a + d) w = S ++ w.drop (w.length - d) ∧ (ovl S (a + d) w).drop (a + d) = w ∧ (ovl S (a + d) w).length = a + d + w.length := by
  obtain ⟨h1, h2⟩ := wayson_le h
  have e0 : S.drop (a + d + w.length) = [] := List.drop_eq_nil_of_le (by omega)
  have e1 : S.drop (a + d) = w.take (w.length - d) := by rw [← List.drop_drop, hd, wayson_shift h]
  have e2 : ovl S (a + d) w = S.take (a + d) ++ w := by unfold ovl; rw [e0, List.append_nil]
  refine ⟨?_, ?_, ?_⟩
  · rw [e2]
    conv => rhs; rw [← List.take_append_drop (a + d) S, e1, List.append_assoc, List.take_append_drop]
  · rw [e2, List.drop_append_of_le_length (by rw [List.length_take]; omega), List.drop_eq_nil_of_le (by rw [List.length_take]; omega), List.nil_append]
  · rw [e2, List.length_append, List.length_take]; omega
def costS (t w : List Str) : Nat → List Nat → Nat
  | _, [] => 0
  | a, b :: r => wrV t w b (w.length + a - b) + costS t w b r
theorem shw_zero {w : List Str} (r : List Nat) : shw w (0 :: r) = r.foldl (fun s p => ovl s p w) w := by
  unfold shw
  rw [List.foldl_cons]
  congr 1
  unfold ovl
  simp
def stepsI (ch : List Int) : List (Int × Int) := ch.zip (ch.drop 1)
def inW (w : List Str) (d : Int) : Bool := (wayson w).any fun k => decide ((k : Int) = d)
def offS (w : List Str) (ch : List Int) : List (Int × Int) := (stepsI ch).filter fun p => !inW w (p.2 - p.1)
end Ov
namespace Ov
open PySem (Str PyData)
open MV
def okC (t w : List Str) (ch : List Int) : Prop := ch.head? = some 0 ∧ ch.getLast? = some ((t.length : Int) - (w.length : Int)) ∧ offS w ch = []
instance (t w : List Str) (ch : List Int) : Decidable (okC t w ch) := by unfold okC; exact inferInstance
end Ov
namespace Ov
open PySem (Str PyData)
open MV
end Ov
namespace Ov
open PySem (Str PyData)
open MV
end Ov
namespace Ov
open PySem (Str PyData)
open MV
end Ov
namespace Ov
open PySem (Str PyData)
open MV
def pm (t w : List Str) (p k : Nat) : Nat := mism (t.drop p) (w.take k)
end Ov
namespace Ov
open PySem (Str PyData)
open MV
abbrev T3 := Nat × Nat × Nat
abbrev dB3 (x : T3) : D := .tup [.int (x.1 : Int), .int (x.2.1 : Int), .int (x.2.2 : Int)]
def mn3 : List T3 → Option T3
  | [] => none
  | x :: xs => some (xs.foldl (fun a y => if ltD (dB3 y) (dB3 a) then y else a) x)
def way (t w : List Str) (E p : Nat) (L : List (Option T3)) (far : Nat) : Option T3 :=
  if p + far ≤ E then (match L[far - 1]? with
    | some (some x) => some (x.1 + wrV t w (p + far) (w.length - far), x.2.1 + 1, p + far)
    | _ => none) else none
def BT (t w : List Str) (E : Nat) : Nat → List (Option T3)
  | 0 => [some (0, 0, E)]
  | k + 1 => mn3 ((wayson w).filterMap (way t w E (E - k - 1) (BT t w E k))) :: BT t w E k
section
variable {t w : List Str}
end
end Ov
namespace Ov
open PySem (Str PyData)
open MV
section
variable {t w : List Str}
def bst (t w : List Str) (E p : Nat) : Option T3 := ((BT t w E (E - p)).head?).getD none
def ways (t w : List Str) (E p : Nat) : List T3 := (wayson w).filterMap fun far => if p + far ≤ E then (bst t w E (p + far)).map fun x => (x.1 + wrV t w (p + far) (w.length - far), x.2.1 + 1, p + far) else none
end
end Ov
namespace Ov
open PySem (Str PyData)
open MV
def bls (f : Bool → Bool) (R : List Bool) : List D := R.map fun b => D.bl (f b)
@[simp] theorem bls_len (f : Bool → Bool) (R : List Bool) : (bls f R).length = R.length := by unfold bls; simp
end Ov
namespace Ov
open PySem (Str PyData)
open MV
end Ov
namespace Ov
open PySem (Str PyData)
open MV
end Ov
namespace Ov
open PySem (Str PyData)
open MV
def c4 : List Str := [Str.ofString "NoWord", Str.ofString "NoSign", Str.ofString "NoText", Str.ofString "TooMany"]
end Ov
namespace Ov
open PySem (Str PyData)
open MV
abbrev marksS : Str := Str.ofString " !\"#$&'()*+,-./0123456789:;<=>?@ABCDEFGHIJKLMNOPQRSTUVWXYZ[\\]^_`{|}~\n"
def oddL : List Str := [Str.ofString "", Str.ofString "ab", Str.ofString "aa", Str.ofString "Aa"] ++ marksS.cps.toList.map fun c => ⟨#[c]⟩
theorem oddL_all : oddL.all (fun x => PyData.strOk x && decide (x.length ≤ 100) && !isSg x) = true := by decide +kernel
theorem oddL_mem {x : Str} (h : x ∈ oddL) : okS x ∧ x.length ≤ 100 ∧ isSg x = false := by
  have := List.all_eq_true.mp oddL_all x h
  simp only [Bool.and_eq_true, decide_eq_true_iff, Bool.not_eq_true'] at this
  exact ⟨this.1.1, this.1.2, this.2⟩
def Wd (t : List Str) : Prop := ∀ x ∈ t, Sg x ∨ x ∈ oddL
theorem Wd.gd {t : List Str} (h : Wd t) : Gd t := fun x hx => by
  rcases h x hx with q | q
  · exact Tx.gd (t := [x]) (fun y hy => by rw [List.mem_singleton.mp hy]; exact q) x List.mem_cons_self
  · exact ⟨(oddL_mem q).1, (oddL_mem q).2.1⟩
theorem Wd.odd {t : List Str} (h : Wd t) {x : Str} (hx : x ∈ t) : decide (x ∈ oddL) = !isSg x := by
  rcases h x hx with q | q
  · rw [isSg_iff.mpr q]
    exact decide_eq_false fun z => by have := (oddL_mem z).2.2; rw [isSg_iff.mpr q] at this; cases this
  · rw [(oddL_mem q).2.2]; exact decide_eq_true q
theorem Wd.set {t : List Str} (h : Wd t) {x : Str} (hx : x ∈ oddL) (k : Nat) : Wd (t.set k x) := fun y hy => by
  rcases List.mem_or_eq_of_mem_set hy with hy | hy
  · exact h y hy
  · rw [hy]; exact .inr hx
end Ov
namespace Ov
open PySem (Str PyData)
open MV
section
variable {t w : List Str}
end
end Ov
namespace Ov
open PySem (Str PyData)
open MV
section
variable {t w : List Str}
def roomR (t w : List Str) : Option Nat := if w = [] then some 0 else if w.filter (fun x => !isSg x) = [] then (if t.filter (fun x => !isSg x) = [] then (if t.length < w.length then some 2 else none) else some 1) else some 1
noncomputable def ref1 (t w : List Str) (ch : List Int) : Option Nat := match roomR t w with
  | some c => some c
  | none => if okC t w ch then none else some 3
end
end Ov
namespace Ov
open PySem (Str PyData)
open MV
section
variable {α : Type}
end
section
variable {t w : List Str}
end
end Ov
namespace Ov
structure Dns (L : List Nat) (s E : Nat) : Prop where
  srt : Srt L
  pos : 0 < s
  last : E ∈ L
  le : ∀ p ∈ L, p ≤ E
  nx : ∀ p ∈ L, p < E → ∃ q ∈ L, p < q ∧ q ≤ p + s
def cnd (L : List Nat) (s p : Nat) : List Nat := L.filter fun q => decide (p < q) && decide (q ≤ p + s)
def far (L : List Nat) (s p : Nat) : Nat := (L.filter fun q => decide (q ≤ p + s)).getLastD p
def gr (L : List Nat) (s E p : Nat) : Nat := if p < E then 1 + gr L s E (max (p + 1) (far L s p)) else 0
termination_by E - p
decreasing_by omega
section
variable {L : List Nat} {s E : Nat}
def gd (L : List Nat) (s E p : Nat) : List Nat := (cnd L s p).filter fun q => decide (gr L s E q + 1 = gr L s E p)
def fs (L : List Nat) (s E p : Nat) : Nat := (gd L s E p).headD E
def fl (L : List Nat) (s E p : Nat) : List Nat := if p < E then fs L s E p :: fl L s E (max (p + 1) (fs L s E p)) else []
termination_by E - p
decreasing_by omega
end
end Ov
namespace Ov
open PySem (Str PyData)
open MV
section
variable {t w : List Str}
end
end Ov
namespace Ov
open PySem (Str PyData)
open MV
section
variable {t w : List Str} {E : Nat}
end
end Ov
namespace Ov
open PySem (Str PyData)
open MV
section
variable {L : List Nat} {s E : Nat}
end
end Ov
namespace Ov
open PySem (Str PyData)
open MV
abbrev T3L := Nat × Nat × List Nat
section
variable {t w : List Str} {wh : Bool}
def kx (t w : List Str) (wh : Bool) (c : List Nat) : T3L := (wrV t w 0 0 + costS t w 0 c, c.length + 1, if wh then 0 :: c else [0])
end
end Ov
namespace Ov
open PySem (Str PyData)
open MV
section
variable {L : List Nat} {s E : Nat}
end
end Ov
namespace Ov
open PySem (Str PyData)
open MV
end Ov
namespace Ov
open PySem (Str PyData)
open MV
end Ov
namespace Ov
open PySem (Str PyData)
open MV
section
variable {t w : List Str}
end
end Ov
namespace Ov
open PySem (Str PyData)
open MV
section
variable {t w : List Str}
end
end Ov
namespace Ov
open PySem (Str PyData)
open MV
def cvB (k : Nat) (L : List Nat) (j : Nat) : Bool := L.any fun p => decide (p ≤ j ∧ j < p + k)
def ncv (n k : Nat) (L : List Nat) : Nat := (List.range n).countP (cvB k L)
def gs (k : Nat) : List Nat → Nat
  | [] => 0
  | [_] => k
  | p :: q :: r => min k (q - p) + gs k (q :: r)
section
variable {t w : List Str}
def nC (t w : List Str) : Nat := ncv t.length w.length (lies t w)
end
end Ov
namespace Ov
open PySem (Str PyData)
open MV
section
variable {t : List Str}
end
end Ov
namespace Ov
open PySem (Str PyData)
open MV
def bsF (f : Nat → Nat) : Nat → Nat × Nat
  | 0 => (0, 0)
  | i + 1 => if (bsF f i).1 < f i then (f i, i) else bsF f i
section
variable {t : List Str} {k : Nat}
def fC (t : List Str) (k j : Nat) : Nat := nC t (pc t k j)
def fstL (t : List Str) (k i : Nat) : List Nat := (List.range i).filter (fstAt t k)
def occ (t : List Str) (k i j : Nat) : List Nat := (List.range i).filter fun p => decide (pc t k p = pc t k j)
end
end Ov
namespace Ov
open PySem (Str PyData)
open MV
section
variable {t : List Str} {k : Nat}
end
end Ov
namespace Ov
open PySem (Str PyData)
open MV
section
variable {t w : List Str} {k m : Nat}
def mx (t : List Str) (s : Nat) : Nat := (bsF (fC t s) (t.length + 1 - s)).1
end
end Ov
namespace Ov
open PySem (Str PyData)
open MV
section
variable {t w : List Str} {wh : Bool}
end
end Ov
namespace Ov
open PySem (Str PyData)
open MV
section
variable {t w : List Str} {wh : Bool}
end
end Ov
namespace Ov
open PySem (Str PyData)
open MV
end Ov
namespace Ov
open PySem (Str PyData)
open MV
theorem mism_set (x : Str) : ∀ (t b : List Str) (i : Nat), mism (t.set i x) b ≤ mism t b + 1 ∧ mism t b ≤ mism (t.set i x) b + 1
  | [], b, i => by simp [mism_nil]
  | a :: t, [], i => by simp [mism]
  | a :: t, y :: b, 0 => by
    rw [List.set_cons_zero, mism_cons, mism_cons]
    constructor <;> split <;> split <;> omega
  | a :: t, y :: b, i + 1 => by
    rw [List.set_cons_succ, mism_cons, mism_cons]
    have := mism_set x t b i
    omega
theorem mism_le : ∀ (t b : List Str), mism t b ≤ t.length
  | [], b => by simp [mism_nil]
  | a :: t, [] => by simp [mism]
  | a :: t, y :: b => by
    rw [mism_cons]
    have := mism_le t b
    simp only [List.length_cons]
    split <;> omega
theorem mism_rev : ∀ (t b : List Str), t.length = b.length → mism t.reverse b.reverse = mism t b
  | [], [], _ => rfl
  | [], y :: b, h => by simp at h
  | a :: t, [], h => by simp at h
  | a :: t, y :: b, h => by
    have h' : t.length = b.length := by simpa using h
    have ih := mism_rev t b h'
    have e : mism (t.reverse ++ [a]) (b.reverse ++ [y]) = mism t.reverse b.reverse + mism [a] [y] := by
      unfold mism
      rw [List.zip_append (by simpa using h'), List.filter_append, List.length_append]
    rw [List.reverse_cons, List.reverse_cons, e, mism_cons, mism_cons, ih, mism_nil]
    omega
def Least (t w : List Str) (n : Nat) : Prop := (∃ c, Stp' w 0 c ∧ lastN 0 c + w.length = t.length ∧ mism t (shw w (0 :: c)) = n) ∧ ∀ c, Stp' w 0 c → lastN 0 c + w.length = t.length → n ≤ mism t (shw w (0 :: c))
theorem Least.set {t w : List Str} {m n i : Nat} {x : Str} (h : Least t w m) (g : Least (t.set i x) w n) : n ≤ m + 1 ∧ m ≤ n + 1 := by
  obtain ⟨⟨c, a1, a2, a3⟩, a4⟩ := h
  obtain ⟨⟨d, b1, b2, b3⟩, b4⟩ := g
  have e1 := a4 d b1 (by simpa using b2)
  have e2 := b4 c a1 (by simpa using a2)
  have e3 := mism_set x t (shw w (0 :: c)) i
  have e4 := mism_set x t (shw w (0 :: d)) i
  omega
end Ov
namespace Ov
open PySem (Str PyData)
open MV
def plcs (a : Nat) : List Nat → List Nat
  | [] => []
  | d :: ds => (a + d) :: plcs (a + d) ds
def bld (w : List Str) : List Nat → List Str
  | [] => w
  | d :: ds => w.take d ++ bld w ds
theorem stp_plcs {w : List Str} : ∀ {r : List Nat} {a : Nat}, Stp' w a r → ∃ ds, (∀ d ∈ ds, d ∈ wayson w) ∧ r = plcs a ds
  | [], a, _ => ⟨[], by simp, rfl⟩
  | b :: r, a, h => by
    obtain ⟨⟨d, hd, rfl⟩, h2⟩ := h
    obtain ⟨ds, g1, rfl⟩ := stp_plcs h2
    exact ⟨d :: ds, by intro x hx; rcases List.mem_cons.mp hx with rfl | hx; exact hd; exact g1 x hx, rfl⟩
theorem plcs_stp {w : List Str} : ∀ {ds : List Nat} {a : Nat}, (∀ d ∈ ds, d ∈ wayson w) → Stp' w a (plcs a ds)
  | [], a, _ => trivial
  | d :: ds, a, h => ⟨⟨d, h d (by simp), rfl⟩, plcs_stp fun x hx => h x (by simp [hx])⟩
theorem plcs_last : ∀ (ds : List Nat) (a : Nat), lastN a (plcs a ds) = a + ds.sum
  | [], a => rfl
  | d :: ds, a => by
    show lastN (a + d) (plcs (a + d) ds) = _
    rw [plcs_last ds (a + d), List.sum_cons]; omega
theorem bld_go {w : List Str} : ∀ (ds : List Nat) (a : Nat) (S : List Str), S.length = a + w.length → S.drop a = w → (∀ d ∈ ds, d ∈ wayson w) →
    (plcs a ds).foldl (fun s p => ovl s p w) S = S.take a ++ bld w ds
  | [], a, S, hS, hd, _ => by
    show S = S.take a ++ w
    rw [← hd, List.take_append_drop]
  | d :: ds, a, S, hS, hd, h => by
    obtain ⟨e1, e2, e3⟩ := ovl_next hS hd (h d (by simp))
    obtain ⟨d1, d2⟩ := wayson_le (h d (by simp))
    show (plcs (a + d) ds).foldl (fun s p => ovl s p w) (ovl S (a + d) w) = S.take a ++ (w.take d ++ bld w ds)
    rw [bld_go ds (a + d) _ e3 e2 fun x hx => h x (by simp [hx]), e1, List.take_append_of_le_length (by omega), List.take_add, hd, List.append_assoc]
theorem shw_bld {w : List Str} {ds : List Nat} (h : ∀ d ∈ ds, d ∈ wayson w) : shw w (0 :: plcs 0 ds) = bld w ds := by
  rw [shw_zero, bld_go (w := w) ds 0 w (by omega) rfl h]; simp
theorem bld_snoc {w : List Str} : ∀ {ds : List Nat} {d : Nat}, d ∈ wayson w → bld w (ds ++ [d]) = bld w ds ++ w.drop (w.length - d)
  | [], d, h => by
    show w.take d ++ w = w ++ w.drop (w.length - d)
    have := wayson_shift h
    calc w.take d ++ w = w.take d ++ (w.take (w.length - d) ++ w.drop (w.length - d)) := by rw [List.take_append_drop]
      _ = _ := by rw [← this, ← List.append_assoc, List.take_append_drop]
  | e :: ds, d, h => by
    show w.take e ++ bld w (ds ++ [d]) = w.take e ++ bld w ds ++ _
    rw [bld_snoc h, List.append_assoc]
theorem wayson_rev {w : List Str} {d : Nat} (h : d ∈ wayson w) : d ∈ wayson w.reverse := by
  have s := wayson_shift h
  unfold wayson at h ⊢
  rw [List.mem_filter] at h ⊢
  refine ⟨by simpa using h.1, ?_⟩
  have hd := List.mem_range'_1.mp h.1
  rw [decide_eq_true_eq, List.length_reverse, List.drop_reverse, List.take_reverse, ← s]
  congr 2
  omega
theorem bld_rev {w : List Str} : ∀ {ds : List Nat}, (∀ d ∈ ds, d ∈ wayson w) → (bld w ds).reverse = bld w.reverse ds.reverse
  | [], _ => rfl
  | d :: ds, h => by
    have hd := h d (by simp)
    obtain ⟨d1, d2⟩ := wayson_le hd
    show (w.take d ++ bld w ds).reverse = _
    rw [List.reverse_append, List.reverse_cons, bld_snoc (wayson_rev hd), bld_rev fun x hx => h x (by simp [hx]), List.length_reverse, List.drop_reverse]
    congr 3
    omega
theorem bld_len {w : List Str} : ∀ {ds : List Nat}, (∀ d ∈ ds, d ∈ wayson w) → (bld w ds).length = ds.sum + w.length
  | [], _ => by show w.length = _; simp
  | d :: ds, h => by
    obtain ⟨d1, d2⟩ := wayson_le (h d (by simp))
    show (w.take d ++ bld w ds).length = _
    rw [List.length_append, List.length_take, bld_len fun x hx => h x (by simp [hx]), List.sum_cons]; omega
theorem least_iff {t w : List Str} {n : Nat} : Least t w n ↔ (∃ ds, (∀ d ∈ ds, d ∈ wayson w) ∧ ds.sum + w.length = t.length ∧ mism t (bld w ds) = n) ∧ ∀ ds, (∀ d ∈ ds, d ∈ wayson w) → ds.sum + w.length = t.length → n ≤ mism t (bld w ds) := by
  constructor
  · rintro ⟨⟨c, a1, a2, a3⟩, a4⟩
    obtain ⟨ds, g1, rfl⟩ := stp_plcs a1
    rw [plcs_last] at a2
    refine ⟨⟨ds, g1, by omega, by rw [← shw_bld g1]; exact a3⟩, fun es h1 h2 => ?_⟩
    rw [← shw_bld h1]
    exact a4 _ (plcs_stp h1) (by rw [plcs_last]; omega)
  · rintro ⟨⟨ds, a1, a2, a3⟩, a4⟩
    refine ⟨⟨plcs 0 ds, plcs_stp a1, by rw [plcs_last]; omega, by rw [shw_bld a1]; exact a3⟩, fun c h1 h2 => ?_⟩
    obtain ⟨es, g1, rfl⟩ := stp_plcs h1
    rw [plcs_last] at h2
    rw [shw_bld g1]
    exact a4 _ g1 (by omega)
theorem Least.rev {t w : List Str} {n : Nat} (h : Least t w n) : Least t.reverse w.reverse n := by
  rw [least_iff] at h ⊢
  obtain ⟨⟨ds, a1, a2, a3⟩, a4⟩ := h
  have lr : ∀ es : List Nat, (∀ d ∈ es, d ∈ wayson w.reverse) → ∀ d ∈ es.reverse, d ∈ wayson w := fun es g d hd => by
    have := wayson_rev (g d (by simpa using hd)); rwa [List.reverse_reverse] at this
  refine ⟨⟨ds.reverse, fun d hd => wayson_rev (a1 d (by simpa using hd)), by simpa using a2, ?_⟩, fun es h1 h2 => ?_⟩
  · rw [← bld_rev a1, mism_rev _ _ (by rw [bld_len a1]; omega)]; exact a3
  · have k := lr es h1
    have s : es.reverse.sum + w.length = t.length := by simpa using h2
    have := a4 es.reverse k s
    rw [← mism_rev _ _ (by rw [bld_len k]; omega), bld_rev k, List.reverse_reverse] at this
    exact this
end Ov
namespace Ov
open PySem (Str PyData)
open MV
theorem Least.le {t w : List Str} {n : Nat} (h : Least t w n) : n ≤ t.length := by
  obtain ⟨⟨c, a1, a2, rfl⟩, _⟩ := h
  exact mism_le _ _
end Ov
namespace Ov
open PySem (Str PyData)
open MV
def prf (f : Nat → Str) (n : Nat) : List Str := (List.range n).map f
structure Per (f : Nat → Str) (π m : Nat) : Prop where
  per : ∀ i, f (i + π) = f i
  pos : 0 < π
  div : π ∣ m
  mp : 0 < m
  ways : ∀ d, d ∈ wayson (prf f m) ↔ 1 ≤ d ∧ d ≤ m ∧ π ∣ d
section
variable {f : Nat → Str} {π m : Nat}
end
def dw (E m k : Nat) : List Nat := (List.range k).map fun i => E - (k - 1 - i) * m
inductive PwLe : List Nat → List Nat → Prop
  | nil : PwLe [] []
  | cons {x y : Nat} {a b : List Nat} : x ≤ y → PwLe a b → PwLe (x :: a) (y :: b)
section
variable {f : Nat → Str} {π m E : Nat}
def kk (E m : Nat) : Nat := (E + m - 1) / m
end
end Ov
namespace Ov
open PySem (Str PyData)
open MV
abbrev sA : Str := Str.ofString "a"
def fA : Nat → Str := fun _ => sA
end Ov
namespace Ov
open PySem (Str PyData)
open MV
end Ov
namespace Ov
open PySem (Str PyData)
open MV
end Ov
namespace Ov
open PySem (Str PyData)
open MV
end Ov
namespace Ov
open PySem (Str PyData)
open MV
end Ov
namespace Ov
open PySem (Str PyData)
open MV
end Ov
namespace Ov
open PySem (Str PyData)
open MV
end Ov
namespace Ov
open PySem (Str PyData)
open MV
end Ov
namespace Ov
open PySem (Str PyData)
open MV
end Ov
namespace Ov
open PySem (Str PyData)
open MV
end Ov
namespace Ov
open PySem (Str PyData)
open MV
end Ov
namespace Ov
open PySem (Str PyData)
open MV
end Ov
namespace Ov
open PySem (Str PyData)
open MV
end Ov
namespace Ov
open PySem (Str PyData)
open MV
end Ov
namespace Ov
open PySem (Str PyData)
open MV
section
variable {w : List Str} {ds : List Nat}
end
def Gl (w : Nat) : Nat → List Nat → Prop
  | _, [] => True
  | r, p :: L => p ≤ r ∧ Gl w (p + w) L
section
variable {t w : List Str} {x : Str} {a : Nat}
end
end Ov
namespace Ov
open PySem (Str PyData)
open MV
def prm (w : List Str) : List Nat := (wayson w).filter fun d => decide ((wayson w).filter (fun e => decide (e < d) && decide (((bld w [d]).drop e).take w.length = w)) = [])
section
variable {w : List Str}
end
end Ov
namespace Ov
open PySem (Str PyData)
open MV
section
variable {N : List Nat}
def cl (N : List Nat) : Nat → List Nat
  | 0 => [1]
  | m + 1 => cl N m ++ [((N.filter fun d => decide (d ≤ m + 1)).map fun d => (cl N m).getD (m + 1 - d) 0).sum]
def cnt (N : List Nat) (m : Nat) : Nat := (cl N m).getD m 0
def cv (N : List Nat) (m d : Nat) : Nat := if d ≤ m then cnt N (m - d) else 0
def pk (N : List Nat) (m : Nat) : List Nat → Nat → Option (Nat × Nat)
  | [], _ => none
  | d :: l, k => if k < cv N m d then some (d, k) else pk N m l (k - cv N m d)
def un (N : List Nat) : Nat → Nat → Nat → List Nat
  | 0, _, _ => []
  | _ + 1, 0, _ => []
  | f + 1, m + 1, k => match pk N (m + 1) N k with
    | some (d, r) => d :: un N f (m + 1 - d) r
    | none => []
section
variable (hN : ∀ d ∈ N, 1 ≤ d)
include hN
end
end
end Ov
namespace Ov
open PySem (Str PyData)
open MV
def nD (w : List Str) (d : Nat) : D := .tup [dT (w.drop (w.length - d)), .int (d : Int)]
def nx (w : List Str) : List Nat := (prm w).mergeSort fun a b => leD (nD w a) (nD w b)
section
variable {w : List Str}
end
end Ov
namespace Ov
open PySem (Str PyData)
open MV
section
variable {w : List Str}
end
end Ov
namespace Ov
open PySem (Str PyData)
open MV
section
variable {w : List Str} {N : List Nat}
end
end Ov
namespace Ov
open PySem (Str PyData)
open MV
section
variable {w : List Str} {N : List Nat}
end
end Ov
namespace Ov
open PySem (Str PyData)
open MV
section
variable {w : List Str}
end
end Ov
namespace Ov
open PySem (Str PyData)
open MV
section
variable {t w : List Str}
end
end Ov
namespace Ov
open PySem (Str PyData)
open MV
section
variable {w : List Str}
end
end Ov
namespace Ov
open PySem (Str PyData)
open MV
end Ov
namespace Ov
open PySem (Str PyData)
open MV
end Ov
namespace Ov
open PySem (Str PyData)
open MV
end Ov
namespace Ov
open PySem (Str PyData)
open MV
end Ov
namespace Ov
open PySem (Str PyData)
open MV
section
variable {w : List Str}
end
end Ov
namespace Ov
open PySem (Str PyData)
open MV
end Ov
namespace Ov
open PySem (Str PyData)
open MV
end Ov
namespace Ov
open PySem (Str PyData)
open MV
end Ov
namespace Ov
open PySem (Str PyData)
open MV
section
variable {t : List Str} {k : Nat}
end
end Ov
namespace MV
open PySem PySem.Spec PyProof.Rows L2
section
variable {X : Cx} {cf : Cf} {W : WX} {c : Cls} {n n1 n2 n3 : Bool}
end
end MV
namespace Ov
open PySem MV
end Ov
namespace Ov
open PySem (Str PyData)
open MV
def lsI (k : Nat) (L : List Nat) : Int := match L.getLast? with
  | none => -(k : Int)
  | some q => (q : Int)
section
variable {t : List Str} {k : Nat}
def eDk (k : Nat) (L : List Nat) : D := .tup [.int (lsI k L), .int ((gs k L : Nat) : Int)]
def mP (t : List Str) (k i : Nat) : List (List L2.Key × D) := (fstL t k i).map fun j => (metK (pc t k j), eDk k (occ t k i j))
end
end Ov
namespace MV
open PySem PySem.Spec PyProof.Rows L2
theorem tuoL_get : ∀ {ds : List D} {i : Nat} {d : D}, tuoL ds = true → ds[i]? = some d → d.tuo = true
  | [], _, _, _, h => by simp at h
  | d :: ds, 0, _, t, h => by
    rw [tuoL, Bool.and_eq_true] at t
    cases h; exact t.1
  | d :: ds, i + 1, _, t, h => by
    rw [tuoL, Bool.and_eq_true] at t
    exact tuoL_get t.2 h
theorem ref_lst {K : PySem.W.Frag} {G : Hp} {a : Addr} {ys : List V} {d : D} (ha : G a = some (.lst ys)) (h : Rp K true G (.ref a) d) (t : d.tuo = true) : False := by
  generalize hv : V.ref a = v at h
  cases h with
  | sc h => subst hv; cases d <;> cases h
  | tup h r => cases hv; have h : G a = some (.tup _) := h; rw [ha] at h; cases h
  | lst h r => rw [D.tuo] at t; · cases t
               · intro _ z; cases z
  | dic h l r => rw [D.tuo] at t; · cases t
                 · intro _ z; cases z
  | dit h l r => rw [D.tuo] at t; · cases t
                 · intro _ z; cases z
  | exc h => rw [D.tuo] at t; · cases t
             · intro _ z; cases z
mutual
theorem Rp.thN {K : PySem.W.Frag} {G : Hp} {p a : Addr} {xs ys : List V} (hp : G p = some (.tup xs)) (ha : G a = some (.lst ys)) (hm : V.ref a ∈ xs) : ∀ {v : V} {d : D}, Rp K true G v d → d.tuo = true → Rp K true (TH (rm G [p, a])) v d
  | _, _, .sc h, _ => .sc h
  | _, .tup ds, .tup (a := b) h r, t => by
    have t : tuoL ds = true := by rw [D.tuo] at t; exact t
    have h : G b = some (.tup _) := h
    have nb : b ∉ [p, a] := fun m => by
      rcases List.mem_cons.mp m with rfl | m
      · rw [hp] at h; cases h
        obtain ⟨i, hi, e⟩ := List.getElem_of_mem hm
        obtain ⟨d', d1, d2⟩ := r.getV (by rw [List.getElem?_eq_getElem hi, e])
        exact ref_lst ha d2 (tuoL_get t d1)
      · rw [List.mem_singleton.mp m, ha] at h; cases h
    exact .tup (th_tup (by unfold rm; rw [if_neg nb]; exact h)) (RpL.thN hp ha hm r t)
  | _, _, .lst h r, t => by rw [D.tuo] at t; · cases t
                            · intro _ z; cases z
  | _, _, .dic h l r, t => by rw [D.tuo] at t; · cases t
                              · intro _ z; cases z
  | _, _, .dit h l r, t => by rw [D.tuo] at t; · cases t
                              · intro _ z; cases z
  | _, _, .exc h, t => by rw [D.tuo] at t; · cases t
                          · intro _ z; cases z
theorem RpL.thN {K : PySem.W.Frag} {G : Hp} {p a : Addr} {xs ys : List V} (hp : G p = some (.tup xs)) (ha : G a = some (.lst ys)) (hm : V.ref a ∈ xs) : ∀ {vs : List V} {ds : List D}, RpL K true G vs ds → tuoL ds = true → RpL K true (TH (rm G [p, a])) vs ds
  | _, _, .nil, _ => .nil
  | _, _, .cons h r, t => by
    rw [tuoL, Bool.and_eq_true] at t
    exact .cons (Rp.thN hp ha hm h t.1) (RpL.thN hp ha hm r t.2)
end
section
variable {X : Cx} {cf : Cf} {W : WX} {c : Cls} {n n1 n2 : Bool}
end
end MV
namespace Ov
open PySem MV
end Ov
namespace Ov
open PySem MV
end Ov
namespace Ov
open PySem (Str PyData)
open MV
section
variable {t w : List Str} {k : Nat}
end
end Ov
namespace Ov
open PySem (Str PyData)
open MV
section
variable {t w : List Str}
end
end Ov
namespace MV
open PySem PySem.Spec PyProof.Rows L2
section
variable {X : Cx} {cf : Cf} {W : WX} {c : Cls}
end
end MV
namespace Ov
open PySem MV
end Ov
namespace MV
open PySem PySem.Spec PyProof.Rows L2
def keyOfS (e : Int × Value) : Str := match e.2 with | .str k _ => k | _ => Str.empty
def GoodES (w : World) (e : Int × Value) : Prop := ∃ k tk, e.2 = Value.str k tk ∧ e.1 = hashStr w k
def SetRS (w : World) (h : Heap) (a : Addr) (S : Str → Bool) (n : Nat) : Prop :=
  ∃ o es ep t, h.get? a = some o ∧ o.ExactSet ∧ o.data = .set es ep t ∧ (∀ e ∈ es.toList, GoodES w e) ∧ (es.toList.map keyOfS).Nodup ∧ (∀ k, S k = true ↔ k ∈ es.toList.map keyOfS) ∧
    es.size < scanBound ∧ t.fits es.size = true ∧ es.size = n ∧ Ris t.place.toList ∧ (w.params.followText "set-order" = true ∨ t.led = true)
section
variable {P : Program} {w : World} {h h' : Heap} {a : Addr} {S : Str → Bool} {n : Nat}
theorem SetRS.at (R : SetRS w h a S n) (k : ∀ o, h.get? a = some o → h'.get? a = some o) : SetRS w h' a S n := by
  obtain ⟨o, es, ep, t, ho, r⟩ := R
  exact ⟨o, es, ep, t, k o ho, r⟩
theorem SetRS.congr {S' : Str → Bool} (R : SetRS w h a S n) (e : ∀ k, S' k = S k) : SetRS w h a S' n := by
  have q : S' = S := funext e
  rw [q]; exact R
theorem goodS_elems {l : List (Int × Value)} (g : ∀ e ∈ l, GoodES w e) : ElemsOf (PySem.strKind P w) l := fun e he => by
  obtain ⟨k, tk, h1, h2⟩ := g e he
  exact ⟨⟨k, by rw [h1]; exact PySem.strKind_is P w k tk, h2⟩, by rw [h1] <;> rfl⟩
theorem goodS_is {e : Int × Value} (g : GoodES w e) (k : Str) : (PySem.strKind P w).is k e.2 = true ↔ keyOfS e = k := by
  obtain ⟨k0, tk, h1, _⟩ := g
  unfold keyOfS
  rw [h1]
  show ((k0 == k) = true) ↔ k0 = k
  exact beq_iff_eq
theorem goodS_mem {l : List (Int × Value)} (g : ∀ e ∈ l, GoodES w e) (k : Str) : k ∈ l.map keyOfS ↔ ∃ e ∈ l, (PySem.strKind P w).is k e.2 = true := by
  rw [List.mem_map]
  constructor
  · rintro ⟨e, he, q⟩
    exact ⟨e, he, (goodS_is (g e he) k).2 q⟩
  · rintro ⟨e, he, q⟩
    exact ⟨e, he, (goodS_is (g e he) k).1 q⟩
end
section
variable {P : Program} {w : World} {A : Around} {E : Value → Shared → Prop} {s : Shared} {a : Addr} {S : Str → Bool} {n : Nat}
theorem setRS_add_tail {g : Bool → Sem Unit} (hg : ∀ (b : Bool) (s₁ : Shared) (Q' : Unit → Shared → Prop), Q' () s₁ → wpAny (model P w) A (g b) Q' E s₁)
    {o : Obj} {es : Array (Int × Value)} {ep : Nat} {t : SetTable} (ho : s.heap.get? a = some o) (hex : o.ExactSet) (hd : o.data = .set es ep t)
    {es1 : Array (Int × Value)} {t2 : SetTable} {S' : Str → Bool} (g1 : ∀ e ∈ es1.toList, GoodES w e) (nd1 : (es1.toList.map keyOfS).Nodup) (m1 : ∀ k, S' k = true ↔ k ∈ es1.toList.map keyOfS)
    (hb1 : es1.size < scanBound) (hf2 : t2.fits es1.size = true) (hr : Ris t2.place.toList) (hl : w.params.followText "set-order" = true ∨ t2.led = true) {wasDummy : Bool} {R : Option Bool → Shared → Prop}
    (hR : ∀ h', Heap.SameBut a s.heap h' → SetRS w h' a S' es1.size → R (some true) { s with heap := h' }) :
    wpAny (model P w) A (do
        storeSet a es1 t2
        if (!wasDummy && t2.tooFull) = true then do
            g (relayAll t2 es1 (SetTable.grown es1.size)).2.2
            storeSet a (relayAll t2 es1 (SetTable.grown es1.size)).1 (relayAll t2 es1 (SetTable.grown es1.size)).2.1
            pure (some true)
          else pure (some true)) R E s := by
  refine wpAny_bind (wpAny_storeSet_of ho hd ?_ (fits_of_scanBound hb1))
  have ho1 := store_at (es' := es1) (t' := t2) ho hd
  have sb1 := Heap.SameBut.update s.heap a (Obj.putSet es1 t2)
  split
  · have pm := relayAll_perm t2 es1 (SetTable.grown es1.size)
    have hf3 := relayAll_fits t2 es1 (SetTable.grown es1.size)
    have hr3 := relayAll_ris t2 es1 (SetTable.grown es1.size)
    have hl3 := relayAll_led t2 es1 (SetTable.grown es1.size)
    generalize relayAll t2 es1 (SetTable.grown es1.size) = Z at pm hf3 hr3 hl3 ⊢
    obtain ⟨es2, t3, gave⟩ := Z
    dsimp only at pm hf3 hr3 hl3 ⊢
    have hsz : es2.size = es1.size := by rw [← Array.length_toList, pm.length_eq, Array.length_toList]
    have hb2 : es2.size < scanBound := by rw [hsz]; exact hb1
    refine wpAny_bind (hg _ _ _ ?_)
    refine wpAny_bind (wpAny_storeSet_of ho1 rfl ?_ (fits_of_scanBound hb2))
    have ho2 := store_at (es' := es2) (t' := t3) ho1 rfl
    refine wpAny_pure (hR _ (sb1.trans (Heap.SameBut.update _ a _)) ?_)
    exact ⟨_, es2, _, t3, ho2, hex, rfl, fun e he => g1 e (pm.mem_iff.mp he), (pm.map keyOfS).nodup_iff.mpr nd1, fun k => (m1 k).trans (pm.map keyOfS).mem_iff.symm, hb2, hf3, hsz, hr3,
      hl.imp id fun z => by rw [hl3]; exact z⟩
  · exact wpAny_pure (hR _ sb1 ⟨_, es1, _, t2, ho1, hex, rfl, g1, nd1, m1, hb1, hf2, rfl, hr, hl⟩)
theorem setRS_add_hashed {k : Str} {tk : Tok} {Q : Bool → Shared → Prop} (R : SetRS w s.heap a S n) (room : n + 1 < scanBound)
    (hQ : ∀ h', Heap.SameBut a s.heap h' → SetRS w h' a (fun j => S j || decide (j = k)) (if S k = true then n else n + 1) → Q (!S k) { s with heap := h' }) :
    wpAny (model P w) A (setAddHashed a (.str k tk) ((PySem.strKind P w).hash k)) Q E s := by
  obtain ⟨o, es, ep, t, ho, hex, hd, g, nd, hm, hb, hf, hn, hr, hl⟩ := R
  have hkey : (PySem.strKind P w).is k (.str k tk) = true := PySem.strKind_is P w k tk
  have hsc : (Value.str k tk).scannable = true := rfl
  have hel : ElemsOf (PySem.strKind P w) es.toList := goodS_elems g
  unfold setAddHashed setAddHashedIn
  refine wpAny_holding (wpAny_bind (wpAny_setState_of ho hd hf ?_))
  dsimp only
  rw [byScan_of hsc hb hel]
  simp only [↓reduceIte]
  unfold setAddByScan
  refine wpAny_bind ?_
  refine wpAny_bind (wpAny_rule ?_)
  refine wpAny_bind (wpAny_setScan_of hkey ho hd hf hel ?_)
  cases hfi : List.findIdx? (fun e => (PySem.strKind P w).is k e.2) es.toList with
  | some j =>
    dsimp only
    obtain ⟨hj, pj, _⟩ := List.findIdx?_eq_some_iff_getElem.mp hfi
    have hSk : S k = true := (hm k).2 ((goodS_mem (P := P) (w := w) g k).2 ⟨es.toList[j], List.getElem_mem hj, pj⟩)
    refine wpAny_pure (wpAny_pure ?_)
    have q := hQ s.heap (Heap.SameBut.refl a s.heap) ⟨o, es, ep, t, ho, hex, hd, g, nd, fun i => by
      rw [Bool.or_eq_true, decide_eq_true_eq, ← hm i]
      exact ⟨fun z => z.elim id (fun e => e ▸ hSk), .inl⟩, hb, hf, by rw [if_pos hSk]; exact hn, hr, hl⟩
    rw [hSk] at q
    exact q
  | none =>
    dsimp only
    have hnk : k ∉ es.toList.map keyOfS := fun z => by
      obtain ⟨e, he, q⟩ := (goodS_mem (P := P) (w := w) g k).1 z
      have c := List.findIdx?_eq_none_iff.mp hfi e he
      rw [q] at c
      cases c
    have hSk : S k = false := by
      cases q : S k with
      | false => rfl
      | true => exact absurd ((hm k).1 q) hnk
    have hgw : ∀ (b : Bool) {s₁ : Shared} {Q' : Unit → Shared → Prop}, Q' () s₁ → wpAny (model P w) A (match b with | true => rule "set.scan.the-table-gave-way" | false => pure ()) Q' E s₁ :=
      fun b s₁ Q' q => by cases b <;> first | exact wpAny_pure q | exact wpAny_rule q
    have pm := layNew_perm t es ((PySem.strKind P w).hash k) (.str k tk)
    have hf1 := layNew_fits t es ((PySem.strKind P w).hash k) (.str k tk)
    have hr1 := layNew_ris t es ((PySem.strKind P w).hash k) (.str k tk) hr
    have hl1 := layNew_led t es ((PySem.strKind P w).hash k) (.str k tk)
    generalize layNew t es ((PySem.strKind P w).hash k) (.str k tk) = Z at pm hf1 hr1 hl1 ⊢
    obtain ⟨es1, t1, wasDummy, gave⟩ := Z
    dsimp only at pm hf1 hr1 hl1 ⊢
    rw [Array.toList_push] at pm
    have pc : es1.toList.Perm (((PySem.strKind P w).hash k, Value.str k tk) :: es.toList) := pm.trans (List.perm_append_singleton _ _)
    have pk : (es1.toList.map keyOfS).Perm (k :: es.toList.map keyOfS) := pc.map keyOfS
    have g1 : ∀ e ∈ es1.toList, GoodES w e := fun e he => by
      rcases List.mem_cons.mp (pc.mem_iff.mp he) with z | z
      · rw [z]; exact ⟨k, tk, rfl, rfl⟩
      · exact g e z
    have nd1 : (es1.toList.map keyOfS).Nodup := pk.nodup_iff.mpr (List.nodup_cons.mpr ⟨hnk, nd⟩)
    have m1 : ∀ i, (S i || decide (i = k)) = true ↔ i ∈ es1.toList.map keyOfS := fun i => by
      rw [Bool.or_eq_true, decide_eq_true_eq, hm i, pk.mem_iff, List.mem_cons]
      exact Or.comm
    have hsz : es1.size = n + 1 := by rw [← Array.length_toList, pc.length_eq, List.length_cons, Array.length_toList, hn]
    have hb1 : es1.size < scanBound := by rw [hsz]; exact room
    have hled : w.params.followText "set-order" = true ∨ t1.led = true := hl.imp id fun z => by rw [hl1]; exact z
    have fin : ∀ h', Heap.SameBut a s.heap h' → SetRS w h' a (fun j => S j || decide (j = k)) es1.size → Q true { s with heap := h' } := fun h' sb r => by
      have q := hQ h' sb
      rw [hSk] at q
      rw [hsz] at r
      exact q r
    refine wpAny_bind (hgw _ ?_)
    split
    · refine wpAny_bind ?_
      rw [hashByValue_scannable 8 hsc]
      refine wpAny_pure ?_
      refine setRS_add_tail ?_ ho hex hd g1 nd1 m1 hb1 ?_ ?_ ?_ ?_
      · intro b s₁ Q' q; cases b <;> first | exact wpAny_pure q | exact wpAny_rule q
      · first | (split <;> first | exact hf1 | exact SetTable.fits_plain_off hf1) | exact hf1
      · first | (split <;> exact hr1) | exact hr1
      · first | (split <;> exact hled) | exact hled
      · intro h' sb r; dsimp only; exact wpAny_pure (fin h' sb r)
    · refine wpAny_bind (wpAny_pure ?_)
      simp only [↓reduceIte]
      refine setRS_add_tail ?_ ho hex hd g1 nd1 m1 hb1 hf1 hr1 hled ?_
      · intro b s₁ Q' q; cases b <;> first | exact wpAny_pure q | exact wpAny_rule q
      · intro h' sb r; dsimp only; exact wpAny_pure (fin h' sb r)
end
theorem setRS_new_at {w : World} {h : Heap} {a : Addr} {ns : List Str} (ho : h.get? a = some { cls := .type "set", dict := none, data := .set #[] 0 (.fresh 0 0 (!w.params.followText "set-order")) }) : SetRS w h a (fun j => decide (j ∈ ns.take 0)) 0 :=
  ⟨_, #[], 0, _, ho, ⟨rfl, rfl, rfl⟩, rfl, (fun e he => by simp at he), (by simp), (fun k => by simp), (by decide), (by rfl), rfl, List.Pairwise.nil, by
    show _ ∨ (!w.params.followText "set-order") = true
    cases w.params.followText "set-order"
    · exact .inr rfl
    · exact .inl rfl⟩
section
variable {P : Program} {w : World} {A : Around} {E : Value → Shared → Prop} {s : Shared}
theorem set_update_strs {I : Addr} {fp wr : List Addr} {G : Array GenState → Array GenState → Prop} {n : Nat} {Pv : Nat → Value → Prop} {St : Nat → Shared → Prop} {R : Result → Shared → Prop}
    (W : WalksS P w A.in1 I fp wr G n Pv St) (S : Addr) (hSf : S ∉ fp) (ns : List Str) (hn : n = ns.length) (hb : ns.length + 1 < scanBound) (hval : ∀ i v, Pv i v → ∃ k t, ns[i]? = some k ∧ v = .str k t) :
    ∀ (k i : Nat) (s : Shared), n - i = k → i ≤ n → St i s → (∃ c, c ≤ i ∧ SetRS w s.heap S (fun j => decide (j ∈ ns.take i)) c) →
      (∀ s' c, Moved (S :: wr) G s s' → c ≤ n → SetRS w s'.heap S (fun j => decide (j ∈ ns)) c → R (.ok (.ret .none)) s') →
      codeAny (model P w) A (.builtin "set.update.loop" ⟨[.ref S, .ref I], []⟩) R s := by
  have hSw : S ∉ wr := fun h => hSf (W.sub _ h)
  have hsub : ∀ b ∈ wr, b ∈ S :: wr := fun b hb => List.mem_cons_of_mem _ hb
  intro k
  induction k with
  | zero =>
    intro i s hk' hi hst ⟨c, hc, hS⟩ hR
    have hin : i = n := by omega
    subst hin
    refine codeAny_builtin F.entry_set_update_loop ?_
    rw [Around.under_plainId F.plain_set_update_loop _]
    show wpAny _ A.in1 (pyNext (.ref I) >>= _) _ _ s
    refine wpAny_bind (W.done s _ _ hst fun s' hm => ?_)
    show wpAny _ A.in1 (PySem.ret Value.none) _ _ s'
    have e : ns.take i = ns := List.take_of_length_le (by omega)
    rw [e] at hS
    exact wpAny_pure (hR s' c (hm.mono hsub) hc (hS.at fun o e => hm.heap S o hSw e))
  | succ k ih =>
    intro i s hk' hi hst ⟨c, hc, hS⟩ hR
    have hlt : i < n := by omega
    refine codeAny_builtin F.entry_set_update_loop ?_
    rw [Around.under_plainId F.plain_set_update_loop _]
    show wpAny _ A.in1 (pyNext (.ref I) >>= _) _ _ s
    refine wpAny_bind (W.item i s _ _ hlt hst fun v s' hP hst' hm => ?_)
    obtain ⟨z, t, hz, rfl⟩ := hval i v hP
    have hS' : SetRS w s'.heap S (fun j => decide (j ∈ ns.take i)) c := hS.at fun o e => hm.heap S o hSw e
    show wpAny _ A.in1 (holding [Value.str z t] (setAdd S (.str z t)) >>= _) _ _ s'
    refine wpAny_bind (wpAny_holding ?_)
    unfold setAdd
    refine wpAny_holding ?_
    refine wpAny_bind ((PySem.strKind P w).pyHash (k := z) (PySem.strKind_is _ _ _ _) ?_)
    refine setRS_add_hashed (s := { s' with toks := s'.toks + 1 }) hS' (by omega) fun h' hsb hS2 => ?_
    have hS3 : SetRS w h' S (fun j => decide (j ∈ ns.take (i + 1))) (if decide (z ∈ ns.take i) = true then c else c + 1) := hS2.congr fun j => by
      rw [List.take_add_one, hz]
      simp [List.mem_append]
    have hc3 : (if decide (z ∈ ns.take i) = true then c else c + 1) ≤ i + 1 := by
      split <;> omega
    refine wpAny_pure ⟨plainId_quiet F.plain_set_update_loop _, ih (i + 1) _ (by omega) hlt (W.frame _ s' _ _ hst' (Nat.le_succ _) fun b hb o e => ?_) ⟨_, hc3, hS3⟩ fun s'' c2 hm'' hc'' hS'' => ?_⟩
    · rw [hsb.2 b (fun h : b = S => hSf (by rw [← h]; exact hb))]; exact e
    · refine hR s'' c2 (Moved.trans W.gtrans ((hm.mono hsub).then_heap (Nat.le_succ _) fun b o hb e => ?_) hm'') hc'' hS''
      rw [hsb.2 b (fun h : b = S => hb (by rw [h]; exact List.mem_cons_self))]; exact e
end
section
variable {P : Program} {w : World} {A : Around} {E : Value → Shared → Prop} {s : Shared}
set_option maxHeartbeats 8000000 in
theorem call_set_lstS {l : Addr} {items : Array Value} (ns : List Str) {Q : Value → Shared → Prop} (hh : A.handled = none) (hl : s.heap.IsList l items) (hit : StrsAre items.toList ns) (hb : ns.length + 1 < scanBound)
    (h : ∀ (h' : Heap) (tk c : Nat), SetRS w h' s.heap.objs.size (fun j => decide (j ∈ ns)) c → c ≤ ns.length → (∀ b o, s.heap.get? b = some o → h'.get? b = some o) → Q (.ref s.heap.objs.size) { s with heap := h', toks := tk }) :
    wpAny (model P w) A (call (.type "set") [.ref l]) Q E s := by
  have hisz : items.size = ns.length := by
    have q := StrsAre.length hit
    rw [Array.length_toList] at q
    exact q
  obtain ⟨c, tl, hmro⟩ := F.called_set.mro
  have hmade := F.called_set.made
  have hsub := F.called_set.sub
  refine wpAny_call (codeAny_of_tree ?_)
  show wpAny _ _ (callAny (.type "set") _) _ _ _
  refine wpAny_pure ⟨Code.quiet_builtin _ (by decide +kernel), codeAny_builtin F.entry_type_call ?_⟩
  rw [Around.under_plain (weight_type_call_type "set" [.ref l] []) rfl]
  have h1 := F.called_set.notType
  have h2 := F.called_set.canCreate
  have hct := F.typeCall_set_1 (.ref l)
  repeat (any_goals (first | assumption | wp_step))
  refine codeAny_mono (code_set_led1 (.ref l) (E := E) (Q₁ := fun obj s₁ => obj = .ref s.heap.objs.size ∧ s₁ = { s with heap := s.heap.push { cls := .type "set", dict := none, data := .set #[] 0 (.fresh 0 0 (!w.params.followText "set-order")) } }) ⟨rfl, rfl⟩) fun r s₁ hr => ?_
  cases r with
  | error e => exact hr
  | ok fl =>
    cases fl with
    | ret obj =>
      obtain ⟨rfl, rfl⟩ := hr
      have hS : (s.heap.push { cls := .type "set", dict := none, data := .set #[] 0 (.fresh 0 0 (!w.params.followText "set-order")) }).get? s.heap.objs.size = some { cls := .type "set", dict := none, data := .set #[] 0 (.fresh 0 0 (!w.params.followText "set-order")) } := Heap.get?_push_size _ rfl
      have hT : Shared.TypeIs { s with heap := s.heap.push { cls := .type "set", dict := none, data := .set #[] 0 (.fresh 0 0 (!w.params.followText "set-order")) } } (.ref s.heap.objs.size) "set" := ⟨_, hS, rfl⟩
      have hli := F.called_set.init.lookup
      have hbi := F.called_set.init.bind (.ref s.heap.objs.size)
      repeat (any_goals (first | assumption | wp_step))
      refine codeAny_mono (codeAny_call_builtin (R := wants (fun r s₂ => r = .none ∧ ∃ h' tk c, s₂ = { s with heap := h', toks := tk } ∧ SetRS w h' s.heap.objs.size (fun j => decide (j ∈ ns)) c ∧ c ≤ ns.length ∧
          (∀ b o, s.heap.get? b = some o → h'.get? b = some o)) E) F.called_set.init.plain F.entry_set_init (check_set_init_1 hT ?_)) fun r₂ s₂ hr₂ => ?_
      · obtain ⟨ol, hol, hcl, nl, hdl⟩ := hl
        obtain ⟨ocls, odict, odata, oslots⟩ := ol
        simp only at hcl hdl
        subst hcl; subst hdl
        have hol' : (s.heap.push { cls := .type "set", dict := none, data := .set #[] 0 (.fresh 0 0 (!w.params.followText "set-order")) }).get? l = some { cls := .type "list", dict := odict, data := .seq items nl, slots := oslots } := Heap.get?_push_of_some _ hol
        have hsls := F.sub_list_set
        have hslf := F.sub_list_frozenset
        have hne : (Value.type "list" == Value.type "dict") = false := by decide
        have hl1 : (s.heap.push { cls := .type "set", dict := none, data := .set #[] 0 (.fresh 0 0 (!w.params.followText "set-order")) }).IsList l items := ⟨_, hol', rfl, nl, rfl⟩
        unfold Builtin.«set.__init__» noKeywords Builtin.Frozenset.updateFrom
        generalize hPI : pyIter = PI
        wp_walk
        subst hPI
        refine wpAny_pyIter_list hl1 ?_
        refine wpAny_bind (wpAny_runValue ?_)
        have hlS : l < s.heap.objs.size := Heap.lt_size hol
        have hh3 : A.in1.in1.in1.handled = none := by simp [hh]
        have hneI : l ≠ (s.heap.push { cls := .type "set", dict := none, data := .set #[] 0 (.fresh 0 0 (!w.params.followText "set-order")) }).objs.size := by
          rw [Heap.size_push]; exact Nat.ne_of_lt (Nat.lt_succ_of_lt hlS)
        have hSf : s.heap.objs.size ∉ [(s.heap.push { cls := .type "set", dict := none, data := .set #[] 0 (.fresh 0 0 (!w.params.followText "set-order")) }).objs.size, l] := by
          rw [Heap.size_push]; simp only [List.mem_cons, List.mem_singleton, List.not_mem_nil, or_false, not_or]
          exact ⟨Nat.ne_of_lt (Nat.lt_succ_self _), Nat.ne_of_gt hlS⟩
        have hval : ∀ (i : Nat) (v : Value), items[i]? = some v → ∃ k t, ns[i]? = some k ∧ v = .str k t := fun i v hv => by
          have hi : i < ns.length := by rw [← hisz]; exact (Array.getElem?_eq_some_iff.mp hv).1
          obtain ⟨t, e⟩ := SS.strs_at hit i v (by rw [Array.getElem?_toList]; exact hv)
          refine ⟨ns[i], t, List.getElem?_eq_getElem hi, ?_⟩
          rw [e, List.getD_eq_getElem?_getD, List.getElem?_eq_getElem hi] <;> rfl
        refine set_update_strs ((Walks.list hh3 _ l hneI items).toS) s.heap.objs.size
          hSf ns hisz hb hval (items.size - 0) 0 _ (by omega) (Nat.zero_le _)
          ⟨⟨_, Heap.get?_push_size _ rfl, rfl, rfl⟩, (hl1.push _)⟩ ?hS0 ?hR
        case hS0 =>
          have hget : ((s.heap.push { cls := .type "set", dict := none, data := .set #[] 0 (.fresh 0 0 (!w.params.followText "set-order")) }).push { cls := .type "list_iterator", data := .fields #[.ref l, .int 0 0] }).get? s.heap.objs.size
              = some { cls := .type "set", dict := none, data := .set #[] 0 (.fresh 0 0 (!w.params.followText "set-order")) } := Heap.get?_push_of_some _ hS
          exact ⟨0, Nat.le_refl 0, setRS_new_at hget⟩
        case hR =>
          intro s' c' hm hc' hS'
          obtain ⟨h', g2, d', tk', os'⟩ := s'
          have eg : g2 = s.gens := hm.gens
          have ed : d' = s.drawn := hm.drawn
          have eo : os' = s.os := hm.os
          subst eg; subst ed; subst eo
          show wpAny _ _ _ _ _ _
          refine wpAny_pure ?_
          show wpAny _ _ (PySem.ret Value.none) _ _ _
          rw [hisz] at hc'
          refine wpAny_pure ⟨rfl, h', tk', c', rfl, hS', hc', fun b o e => ?_⟩
          have hb0 : b < s.heap.objs.size := Heap.lt_size e
          have hb1 : b ≠ s.heap.objs.size := Nat.ne_of_lt hb0
          have hb2 : b ≠ (s.heap.push { cls := .type "set", dict := none, data := .set #[] 0 (.fresh 0 0 (!w.params.followText "set-order")) }).objs.size := by
            rw [Heap.size_push]; exact Nat.ne_of_lt (Nat.lt_succ_of_lt hb0)
          exact hm.heap b o (by simp only [List.mem_cons, List.mem_singleton, List.not_mem_nil, or_false, not_or]; exact ⟨hb1, hb2⟩) (Heap.get?_push_of_some _ (Heap.get?_push_of_some _ e))
      · cases r₂ with
        | error e => exact hr₂
        | ok fl₂ =>
          cases fl₂ with
          | ret r =>
            obtain ⟨rfl, h', tk, c', rfl, hS', hc', hk'⟩ := hr₂
            repeat (any_goals (first | assumption | wp_step))
            exact h _ _ _ hS' hc' hk'
          | _ => exact hr₂.elim
    | _ => exact hr.elim
end
section
variable {P : Program} {w : World} {A : Around} {E : Value → Shared → Prop} {s : Shared}
end
section
variable {X : Cx}
end
section
variable {X : Cx} {cf : Cf} {W : WX} {c : Cls} {n n1 n2 : Bool}
end
end MV
namespace Ov
open PySem MV
end Ov
namespace Ov
open PySem (Str PyData)
open MV
section
variable {t w : List Str}
end
end Ov
namespace Ov
open PySem (Str PyData)
open MV
theorem ltD_lenT {y a : List Str} : (ltD (lenT y) (lenT a) = true → y.length ≤ a.length) ∧ (¬ ltD (lenT y) (lenT a) = true → a.length ≤ y.length) := by
  have e : ltD (lenT y) (lenT a) = PySem.W.dataLt (.tuple [.int (y.length : Int), .list (y.map PyData.str)]) (.tuple [.int (a.length : Int), .list (a.map PyData.str)]) := by
    unfold ltD
    rw [P_of (toP_lenT y), P_of (toP_lenT a)]
  have i := PySem.W.dataLt_ii (y.length : Int) 0 (a.length : Int) 0
  rw [PySem.W.dataLt_pair (by simp [PySem.W.alike]) (by simp [PySem.W.alike])] at i
  rw [e, PySem.W.dataLt_pair (by simp [PySem.W.alike]) (by rw [PySem.W.alike]; exact alike_strs y a)]
  by_cases c : PyData.eqv (.int (y.length : Int)) (.int (a.length : Int)) = true
  · have : (y.length : Int) = (a.length : Int) := by simpa [PyData.eqv] using c
    exact ⟨fun _ => by omega, fun _ => by omega⟩
  · rw [if_neg c] at i ⊢
    rw [i]
    have : ¬ (y.length : Int) = (a.length : Int) := by simpa [PyData.eqv] using c
    constructor
    · intro h
      have := of_decide_eq_true h
      omega
    · intro h
      have := of_decide_eq_false (Bool.not_eq_true _ ▸ h)
      omega
theorem mnT_spec : ∀ (cs : List (List Str)) (c : List Str), mnT c cs ∈ c :: cs ∧ ∀ x ∈ c :: cs, (mnT c cs).length ≤ x.length
  | [], c => ⟨List.mem_cons_self, fun x hx => by rw [List.mem_singleton.mp hx]; exact Nat.le_refl _⟩
  | y :: r, c => by
    have un : mnT c (y :: r) = mnT (if ltD (lenT y) (lenT c) = true then y else c) r := rfl
    rw [un]
    obtain ⟨l1, l2⟩ := ltD_lenT (y := y) (a := c)
    by_cases q : ltD (lenT y) (lenT c) = true
    · rw [if_pos q]
      obtain ⟨h1, h2⟩ := mnT_spec r y
      refine ⟨List.mem_cons_of_mem _ h1, fun x hx => ?_⟩
      rcases List.mem_cons.mp hx with rfl | hx
      · exact Nat.le_trans (h2 y List.mem_cons_self) (l1 q)
      · exact h2 x hx
    · rw [if_neg q]
      obtain ⟨h1, h2⟩ := mnT_spec r c
      refine ⟨?_, fun x hx => ?_⟩
      · rcases List.mem_cons.mp h1 with h | h
        · rw [h]; exact List.mem_cons_self
        · exact List.mem_cons_of_mem _ (List.mem_cons_of_mem _ h)
      · rcases List.mem_cons.mp hx with rfl | hx
        · exact h2 x List.mem_cons_self
        · rcases List.mem_cons.mp hx with rfl | hx
          · exact Nat.le_trans (h2 c List.mem_cons_self) (l2 q)
          · exact h2 x (List.mem_cons_of_mem _ hx)
section
variable {t w : List Str}
theorem mem_S2 {k x : Nat} : x ∈ S2 k ↔ x = 0 ∨ x = k := by
  unfold S2
  by_cases c : k = 0
  · rw [if_pos c]; subst c; simp
  · rw [if_neg c]; simp
theorem mem_shC {s : List Str} : s ∈ shC t w ↔ (lies w t ≠ [] ∧ s = w) ∨ ∃ f l, (f = 0 ∨ f = ha t w) ∧ (l = 0 ∨ l = hb t w) ∧ t.length - l ≤ cam w.length f (lies t w) ∧ s = shB t w f l := by
  unfold shC
  rw [List.mem_append, List.mem_flatMap]
  constructor
  · rintro (h | ⟨f, hf, h⟩)
    · by_cases c : lies w t = []
      · rw [if_pos c] at h; cases h
      · rw [if_neg c] at h; exact .inl ⟨c, List.mem_singleton.mp h⟩
    · obtain ⟨l, hl, h⟩ := List.mem_flatMap.mp h
      unfold shR at h
      by_cases c : t.length - l ≤ cam w.length f (lies t w)
      · rw [if_pos c] at h
        exact .inr ⟨f, l, mem_S2.mp hf, mem_S2.mp hl, c, List.mem_singleton.mp h⟩
      · rw [if_neg c] at h; cases h
  · rintro (⟨c, rfl⟩ | ⟨f, l, hf, hl, c, rfl⟩)
    · rw [if_neg c]; exact .inl List.mem_cons_self
    · refine .inr ⟨f, mem_S2.mpr hf, List.mem_flatMap.mpr ⟨l, mem_S2.mpr hl, ?_⟩⟩
      unfold shR
      rw [if_pos c]; exact List.mem_cons_self
theorem ha_lt' (w0 : 0 < w.length) : ha t w < w.length := by
  by_cases c : ha t w = 0
  · omega
  · exact (ha_ngv c).1.2.1
theorem hb_lt' (w0 : 0 < w.length) : hb t w < w.length := by
  by_cases c : hb t w = 0
  · omega
  · have := (hb_psv c).2.2
    have := hb_le t w
    omega
theorem shC_bound {s : List Str} (w0 : 0 < w.length) (h : s ∈ shC t w) : s.length ≤ w.length ∨ s.length + 2 ≤ t.length + 2 * w.length := by
  rcases mem_shC.mp h with ⟨c, rfl⟩ | ⟨f, l, _, _, _, rfl⟩
  · exact .inl (Nat.le_refl _)
  · right
    unfold shB
    rw [List.length_append, List.length_append]
    have a : (if 0 < f then w.take (w.length - f) else []).length + 1 ≤ w.length := by
      by_cases c : 0 < f
      · rw [if_pos c, List.length_take]; omega
      · rw [if_neg c]; show 0 + 1 ≤ w.length; omega
    have b : (if 0 < l then w.drop l else []).length + 1 ≤ w.length := by
      by_cases c : 0 < l
      · rw [if_pos c, List.length_drop]; omega
      · rw [if_neg c]; show 0 + 1 ≤ w.length; omega
    omega
theorem shC_cvd {s : List Str} (w0 : 0 < w.length) (h : s ∈ shC t w) : cvd s w = true := by
  rcases mem_shC.mp h with ⟨c, rfl⟩ | ⟨f, l, hf, hl, c, rfl⟩
  · rw [cvd_iff]
    intro j hj
    exact ⟨0, by rw [lies_self]; exact List.mem_cons_self, Nat.zero_le _, by omega⟩
  · rw [cvd_iff]
    rw [cam_iff (srt_lies t w)] at c
    have fa : f < w.length := by
      have := ha_lt' (t := t) w0
      omega
    have fn : f ≤ t.length := by
      have := ha_le t w
      omega
    have lb : l < w.length := by
      have := hb_lt' (t := t) w0
      omega
    have ln : l ≤ t.length := by
      have := hb_le t w
      omega
    generalize hA : (if 0 < f then w.take (w.length - f) else []) = A
    generalize hB : (if 0 < l then w.drop l else []) = B
    have e : shB t w f l = A ++ t ++ B := by unfold shB; rw [hA, hB]
    rw [e]
    have Al : A.length = if 0 < f then w.length - f else 0 := by
      rw [← hA]
      by_cases z : 0 < f
      · rw [if_pos z, if_pos z, List.length_take]; omega
      · rw [if_neg z, if_neg z]; rfl
    have Bl : B.length = if 0 < l then w.length - l else 0 := by
      rw [← hB]
      by_cases z : 0 < l
      · rw [if_pos z, if_pos z, List.length_drop]
      · rw [if_neg z, if_neg z]; rfl
    intro j hj
    rw [List.length_append, List.length_append] at hj
    by_cases j1 : j < A.length + f
    · -- ahead
      have f0 : 0 < f := by
        by_cases z : 0 < f
        · exact z
        · rw [if_neg z] at Al; omega
      have fe : f = ha t w := by omega
      have ng := (ha_ngv (t := t) (w := w) (by omega)).1
      rw [← fe] at ng
      have dr : w.drop (w.length - f) = t.take f := by
        have := ng.2.2
        rw [List.take_of_length_le (by rw [List.length_drop]; omega)] at this
        exact this
      rw [if_pos f0] at Al
      have ew : A ++ t.take f = w := by
        rw [← hA, if_pos f0, ← dr, List.take_append_drop]
      have sp : A ++ t ++ B = [] ++ w ++ (t.drop f ++ B) := by
        rw [← ew, List.nil_append, List.append_assoc, List.append_assoc, ← List.append_assoc (t.take f), List.take_append_drop]
      exact ⟨0, lies_split sp, Nat.zero_le _, by omega⟩
    · by_cases j2 : j < A.length + (t.length - l)
      · rcases c (j - A.length) (by omega) with z | ⟨p, p1, p2, p3⟩
        · omega
        · have pt := lies_parts p1
          have sp : A ++ t ++ B = (A ++ t.take p) ++ w ++ (t.drop (p + w.length) ++ B) := by
            conv => lhs; rw [pt]
            simp only [List.append_assoc]
          have := lies_split sp
          rw [List.length_append, List.length_take] at this
          have pl := lies_lt p1
          exact ⟨_, this, by omega, by omega⟩
      · -- behind
        have l0 : 0 < l := by
          by_cases z : 0 < l
          · exact z
          · rw [if_neg z] at Bl; omega
        have le' : l = hb t w := by omega
        have ps := (hb_psv (t := t) (w := w) (by omega)).1
        rw [← le'] at ps
        rw [if_pos l0] at Bl
        have dr : t.drop (t.length - l) = w.take l := by
          have := ps.2
          rw [List.take_of_length_le (by rw [List.length_drop]; omega), show t.length - (t.length - l) = l by omega] at this
          exact this
        have ew : t.drop (t.length - l) ++ B = w := by
          rw [← hB, if_pos l0, dr, List.take_append_drop]
        have sp : A ++ t ++ B = (A ++ t.take (t.length - l)) ++ w ++ [] := by
          rw [← ew, List.append_nil, List.append_assoc, List.append_assoc, ← List.append_assoc (t.take _), List.take_append_drop]
        have := lies_split sp
        rw [List.length_append, List.length_take] at this
        exact ⟨_, this, by omega, by omega⟩
end
end Ov
namespace Ov
open PySem (Str PyData)
open MV
def ltL (a b : List Str) : Bool := ltD (lenT a) (lenT b)
theorem ltL_irrefl (a : List Str) : ltL a a = false := PyProof.Rows.lex_irrefl _
theorem ltL_trans {a b c : List Str} (h1 : ltL a b = true) (h2 : ltL b c = true) : ltL a c = true := PyProof.Rows.lex_trans _ _ _ h1 h2
theorem alike_lenT (a b : List Str) : PySem.W.alike (lenT a).P (lenT b).P = true := by
  rw [P_lenT, P_lenT, PySem.W.alike, PySem.W.alikeAll, PySem.W.alikeAll, PySem.W.alikeAll, PySem.W.alike, PySem.W.alike, alike_strs]
  rfl
theorem lenT_P_inj {a b : List Str} (h : (lenT a).P = (lenT b).P) : a = b := by
  rw [P_lenT, P_lenT] at h
  injection h with h
  injection h with h1 h2
  injection h2 with h2 h3
  injection h2 with h2
  exact (List.map_inj_right (f := PyData.str) (fun x y e => by injection e)).mp h2
theorem ltL_tri {a b : List Str} (h1 : ltL a b = false) (h2 : ltL b a = false) : a = b := by
  have hk : PySem.W.keyToks (lenT a).P = PySem.W.keyToks (lenT b).P := PyProof.Rows.lex_total _ _ h1 h2
  have te := PySem.W.toks_eqv (lenT a).P (lenT b).P (alike_lenT a b)
  cases q : PyData.eqv (lenT a).P (lenT b).P with
  | true => exact lenT_P_inj (eqv_eq _ _ (alike_lenT a b) q)
  | false =>
    have := te.2 q [.inl 0] [.inl 1]
    rw [hk, PySem.W.lex_pre, PyProof.Rows.lex_irrefl] at this
    rw [PySem.W.lex_one] at this
    cases this
theorem mnT_least : ∀ (cs : List (List Str)) (c : List Str), ∀ x ∈ c :: cs, ltL x (mnT c cs) = false
  | [], c => fun x hx => by rw [List.mem_singleton.mp hx]; exact ltL_irrefl _
  | y :: r, c => by
    have un : mnT c (y :: r) = mnT (if ltL y c = true then y else c) r := rfl
    rw [un]
    have key : ∀ a' o : List Str, ltL o a' = false → ltL o (mnT a' r) = false := fun a' o h => by
      cases q : ltL o (mnT a' r) with
      | false => rfl
      | true =>
        have h1 := mnT_least r a' a' List.mem_cons_self
        cases q2 : ltL (mnT a' r) a' with
        | true => rw [ltL_trans q q2] at h; cases h
        | false =>
          have e := ltL_tri h1 q2
          rw [← e] at q
          rw [q] at h; cases h
    intro x hx
    by_cases q : ltL y c = true
    · rw [if_pos q]
      rcases List.mem_cons.mp hx with rfl | hx
      · refine key y _ ?_
        cases q2 : ltL x y with
        | false => rfl
        | true =>
          have := ltL_trans q q2
          rw [ltL_irrefl] at this; cases this
      · rcases List.mem_cons.mp hx with rfl | hx
        · exact mnT_least r x x List.mem_cons_self
        · exact mnT_least r y x (List.mem_cons_of_mem _ hx)
    · rw [if_neg q]
      rcases List.mem_cons.mp hx with rfl | hx
      · exact mnT_least r x x List.mem_cons_self
      · rcases List.mem_cons.mp hx with rfl | hx
        · exact key c _ (eq_false_of_ne_true q)
        · exact mnT_least r c x (List.mem_cons_of_mem _ hx)
theorem mnT_same {c d : List Str} {cs ds : List (List Str)} (h1 : ∀ x ∈ c :: cs, x ∈ d :: ds) (h2 : ∀ x ∈ d :: ds, ∃ y ∈ c :: cs, y.length < x.length ∨ y = x) : mnT c cs = mnT d ds := by
  obtain ⟨m1, m2⟩ := mnT_spec cs c
  obtain ⟨n1, n2⟩ := mnT_spec ds d
  obtain ⟨y, y1, y2⟩ := h2 _ n1
  have ly := n2 y (h1 y y1)
  have e : y = mnT d ds := y2.resolve_left (by omega)
  rw [e] at y1
  exact ltL_tri (mnT_least ds d _ (h1 _ m1)) (mnT_least cs c _ y1)
section
variable {t w : List Str}
theorem trC_len {a b : Nat} (ha : a ≤ w.length) (hb : b ≤ w.length) : (trC t w a b).length = a + t.length + b := by
  unfold trC
  rw [List.length_append, List.length_append, List.length_take, List.length_drop]; omega
theorem trC_left {a b q : Nat} (ha : a < w.length) (hb : b < w.length) (q1 : q ∈ lies (trC t w a b) w) (z : q < a) (z2 : a < q + w.length) : ngv t w (q + w.length - a) := by
  have le := trC_len (t := t) (w := w) (Nat.le_of_lt ha) (Nat.le_of_lt hb)
  have ql := (mem_lies_iff.mp q1).1
  refine ⟨by omega, by omega, ?_⟩
  apply List.ext_getElem?
  intro x
  rw [List.getElem?_take, List.getElem?_drop, List.getElem?_take, show w.length - (q + w.length - a) + x = a - q + x by omega]
  by_cases x1 : x < t.length
  · rw [if_pos x1]
    by_cases x2 : x < q + w.length - a
    · rw [if_pos x2]
      have := lies_get q1 (r := a - q + x) (by omega)
      rw [← this, trC_at (by omega) (by omega) (by omega)]
      congr 1; omega
    · rw [if_neg x2, List.getElem?_eq_none (by omega)]
  · rw [if_neg x1]
    split
    · rw [List.getElem?_eq_none (by omega)]
    · rfl
theorem trC_right {a b q : Nat} (ha : a < w.length) (hb : b < w.length) (q1 : q ∈ lies (trC t w a b) w) (z : a ≤ q) (z2 : q < a + t.length) : psv t w (q - a) := by
  have le := trC_len (t := t) (w := w) (Nat.le_of_lt ha) (Nat.le_of_lt hb)
  refine ⟨by omega, ?_⟩
  apply List.ext_getElem?
  intro x
  rw [List.getElem?_take, List.getElem?_drop, List.getElem?_take]
  by_cases x1 : x < w.length
  · rw [if_pos x1]
    by_cases x2 : x < t.length - (q - a)
    · rw [if_pos x2]
      have := lies_get q1 x1
      rw [trC_at (by omega) (by omega) (by omega)] at this
      rw [← this]; congr 1; omega
    · rw [if_neg x2, List.getElem?_eq_none (by omega)]
  · rw [if_neg x1]
    split
    · rw [List.getElem?_eq_none (by omega)]
    · rfl
theorem ngv_within {k : Nat} (h : ngv t w k) (hk : t.length ≤ k) : lies w t ≠ [] := by
  obtain ⟨h1, h2, h3⟩ := h
  rw [List.take_of_length_le (l := t) hk] at h3
  have : w.length - k ∈ lies w t := mem_lies_iff.mpr ⟨by omega, h3⟩
  exact fun z => by rw [z] at this; cases this
theorem trial_shC {a b : Nat} (t0 : 0 < t.length) (w0 : 0 < w.length) (ha' : a < w.length) (hb' : b < w.length) (h : cvd (trC t w a b) w = true) : ∃ c ∈ shC t w, c.length < (trC t w a b).length ∨ c = trC t w a b := by
  have le := trC_len (t := t) (w := w) (Nat.le_of_lt ha') (Nat.le_of_lt hb')
  have hc := cvd_iff.mp h
  by_cases wi : lies w t = []
  · have nw : ∀ k, ngv t w k → k < t.length := fun k hk => by
      by_cases c : t.length ≤ k
      · exact absurd wi (ngv_within hk c)
      · omega
    have left : ∀ q, q ∈ lies (trC t w a b) w → q < a → a < q + w.length → q + w.length - a ≤ ha t w := fun q q1 z z2 => by
      have g := trC_left ha' hb' q1 z z2
      exact ha_max g (Nat.le_of_lt (nw _ g))
    have ha0 : a ≠ 0 → w.length - a ≤ ha t w := fun c => by
      obtain ⟨q, q1, q2, q3⟩ := hc 0 (by omega)
      have q0 : q = 0 := by omega
      subst q0
      have := left 0 q1 (by omega) (by omega)
      omega
    have right : ∀ q, q ∈ lies (trC t w a b) w → a ≤ q → q < a + t.length → a + t.length < q + w.length → t.length - (q - a) ≤ hb t w := fun q q1 z z2 z3 =>
      hb_max (by omega) (by omega) (trC_right ha' hb' q1 z z2)
    have hb0 : b ≠ 0 → w.length - b ≤ hb t w := fun c => by
      obtain ⟨q, q1, q2, q3⟩ := hc (a + t.length + b - 1) (by omega)
      have ql := (mem_lies_iff.mp q1).1
      have qe : q + w.length = a + t.length + b := by omega
      by_cases z : a ≤ q
      · have := right q q1 z (by omega) (by omega)
        omega
      · have g := trC_left ha' hb' q1 (by omega) (by omega)
        have := nw _ g
        omega
    have hal := ha_le t w
    have hbl := hb_le t w
    have haw := ha_lt' (t := t) w0
    have hbw := hb_lt' (t := t) w0
    refine ⟨shB t w (if a = 0 then 0 else ha t w) (if b = 0 then 0 else hb t w), mem_shC.mpr (.inr ⟨_, _, ?_, ?_, ?_, rfl⟩), ?_⟩
    · by_cases c : a = 0
      · rw [if_pos c]; exact .inl rfl
      · rw [if_neg c]; exact .inr rfl
    · by_cases c : b = 0
      · rw [if_pos c]; exact .inl rfl
      · rw [if_neg c]; exact .inr rfl
    · rw [cam_iff (srt_lies t w)]
      intro i hi
      obtain ⟨q, q1, q2, q3⟩ := hc (a + i) (by omega)
      have ql := (mem_lies_iff.mp q1).1
      by_cases z : a ≤ q
      · by_cases z2 : q - a + w.length ≤ t.length
        · right
          exact ⟨q - a, (psv_lies z2 w0).mp (trC_right ha' hb' q1 z (by omega)), by omega, by omega⟩
        · exfalso
          have b1 : b ≠ 0 := by omega
          rw [if_neg b1] at hi
          have := right q q1 z (by omega) (by omega)
          omega
      · left
        have a1 : a ≠ 0 := by omega
        rw [if_neg a1]
        have := left q q1 (by omega) (by omega)
        omega
    · have ea : ∀ f, (f = 0 ↔ a = 0) → f = w.length - a ∨ a = 0 → (if 0 < f then w.take (w.length - f) else []) = w.take a := fun f h1 h2 => by
        rcases Nat.eq_zero_or_pos f with c | c
        · rw [if_neg (by omega), h1.mp c]; rfl
        · rw [if_pos c]
          rcases h2 with h2 | h2
          · rw [h2, show w.length - (w.length - a) = a by omega]
          · exact absurd (h1.mpr h2) (by omega)
      have eb : ∀ l, (l = 0 ↔ b = 0) → l = w.length - b ∨ b = 0 → (if 0 < l then w.drop l else []) = w.drop (w.length - b) := fun l h1 h2 => by
        rcases Nat.eq_zero_or_pos l with c | c
        · rw [if_neg (by omega), h1.mp c, Nat.sub_zero, List.drop_length]
        · rw [if_pos c]
          rcases h2 with h2 | h2
          · rw [h2]
          · exact absurd (h1.mpr h2) (by omega)
      have la : ∀ f, f < w.length → (if 0 < f then w.take (w.length - f) else []).length = if f = 0 then 0 else w.length - f := fun f hf => by
        by_cases c : f = 0
        · rw [if_neg (by omega), if_pos c]; rfl
        · rw [if_pos (by omega), if_neg c, List.length_take]; omega
      have lb : ∀ l, l < w.length → (if 0 < l then w.drop l else []).length = if l = 0 then 0 else w.length - l := fun l hl => by
        by_cases c : l = 0
        · rw [if_neg (by omega), if_pos c]; rfl
        · rw [if_pos (by omega), if_neg c, List.length_drop]
      have fa : ∃ f, f = (if a = 0 then 0 else ha t w) ∧ (f = 0 ↔ a = 0) ∧ f < w.length ∧ (a = 0 ∨ w.length - f ≤ a) := by
        by_cases c : a = 0
        · exact ⟨0, by rw [if_pos c], ⟨fun _ => c, fun _ => rfl⟩, w0, .inl c⟩
        · have := ha0 c
          exact ⟨ha t w, by rw [if_neg c], ⟨fun z => by omega, fun z => absurd z c⟩, haw, .inr (by omega)⟩
      have fb : ∃ l, l = (if b = 0 then 0 else hb t w) ∧ (l = 0 ↔ b = 0) ∧ l < w.length ∧ (b = 0 ∨ w.length - l ≤ b) := by
        by_cases c : b = 0
        · exact ⟨0, by rw [if_pos c], ⟨fun _ => c, fun _ => rfl⟩, w0, .inl c⟩
        · have := hb0 c
          exact ⟨hb t w, by rw [if_neg c], ⟨fun z => by omega, fun z => absurd z c⟩, hbw, .inr (by omega)⟩
      obtain ⟨f, f1, f2, f3, f4⟩ := fa
      obtain ⟨l, l1, l2, l3, l4⟩ := fb
      rw [← f1, ← l1]
      by_cases c : (f = w.length - a ∨ a = 0) ∧ (l = w.length - b ∨ b = 0)
      · right
        unfold shB trC
        rw [ea f f2 c.1, eb l l2 c.2]
      · left
        rw [le]
        unfold shB
        rw [List.length_append, List.length_append, la f f3, lb l l3]
        by_cases z1 : f = 0
        · rw [if_pos z1]
          have a0 := f2.mp z1
          by_cases z2 : l = 0
          · exact absurd ⟨.inr a0, .inr (l2.mp z2)⟩ c
          · rw [if_neg z2]
            have : ¬ b = 0 := fun z => z2 (l2.mpr z)
            have h4 := l4.resolve_left this
            have : ¬ l = w.length - b := fun z => c ⟨.inr a0, .inl z⟩
            omega
        · rw [if_neg z1]
          have a0 : ¬ a = 0 := fun z => z1 (f2.mpr z)
          have h3 := f4.resolve_left a0
          by_cases z2 : l = 0
          · rw [if_pos z2]
            have b0 := l2.mp z2
            have : ¬ f = w.length - a := fun z => c ⟨.inl z, .inr b0⟩
            omega
          · rw [if_neg z2]
            have b0 : ¬ b = 0 := fun z => z2 (l2.mpr z)
            have h4 := l4.resolve_left b0
            by_cases z3 : f = w.length - a
            · have : ¬ l = w.length - b := fun z => c ⟨.inl z3, .inl z⟩
              omega
            · omega
  · refine ⟨w, mem_shC.mpr (.inl ⟨wi, rfl⟩), ?_⟩
    obtain ⟨q, q1, q2, q3⟩ := hc 0 (by omega)
    obtain ⟨ql, qe⟩ := mem_lies_iff.mp q1
    have q0 : q = 0 := by omega
    subst q0
    rcases Nat.lt_or_ge w.length (trC t w a b).length with c | c
    · exact .inl c
    · right
      rw [List.drop_zero, List.take_of_length_le c] at qe
      exact qe.symm
theorem shB_trC {f l : Nat} (hf : f ≤ w.length) (hl : l ≤ w.length) : shB t w f l = trC t w (if f = 0 then 0 else w.length - f) (if l = 0 then 0 else w.length - l) := by
  unfold shB trC
  congr 1
  · congr 1
    by_cases c : f = 0
    · rw [if_neg (by omega), if_pos c]; rfl
    · rw [if_pos (by omega), if_neg c]
  · by_cases c : l = 0
    · rw [if_neg (by omega), if_pos c, Nat.sub_zero, List.drop_length]
    · rw [if_pos (by omega), if_neg c, show w.length - (w.length - l) = l by omega]
theorem within_trC {p : Nat} (h : p ∈ lies w t) : w = trC t w p (w.length - (p + t.length)) := by
  have h1 := lies_parts h
  have h2 := lies_lt h
  unfold trC
  rw [show w.length - (w.length - (p + t.length)) = p + t.length by omega]
  exact h1
def trR (t w : List Str) (A B : List Nat) : List (List Str) := A.flatMap fun a => B.flatMap fun b => if cvd (trC t w a b) w = true then [trC t w a b] else []
theorem mem_trR {A B : List Nat} {s : List Str} : s ∈ trR t w A B ↔ ∃ a ∈ A, ∃ b ∈ B, cvd (trC t w a b) w = true ∧ s = trC t w a b := by
  unfold trR
  rw [List.mem_flatMap]
  constructor
  · rintro ⟨a, h1, h⟩
    obtain ⟨b, h2, h⟩ := List.mem_flatMap.mp h
    by_cases c : cvd (trC t w a b) w = true
    · rw [if_pos c] at h; exact ⟨a, h1, b, h2, c, List.mem_singleton.mp h⟩
    · rw [if_neg c] at h; cases h
  · rintro ⟨a, h1, b, h2, c, rfl⟩
    refine ⟨a, h1, List.mem_flatMap.mpr ⟨b, h2, ?_⟩⟩
    rw [if_pos c]; exact List.mem_cons_self
def outR (w : List Str) (f : Nat) : List Nat := if f = 0 then [0] else [0, w.length - f]
theorem mem_outR {f x : Nat} : x ∈ outR w f ↔ x = 0 ∨ (f ≠ 0 ∧ x = w.length - f) := by
  unfold outR
  by_cases c : f = 0
  · rw [if_pos c]; simp [c]
  · rw [if_neg c]; simp [c]
def dueR (t w : List Str) : List (List Str) := if 10 < w.length then (if lies w t = [] then [] else [w]) ++ trR t w (outR w (ha t w)) (outR w (hb t w)) else trR t w (List.range w.length) (List.range w.length)
theorem due_shC (t0 : 0 < t.length) (w0 : 0 < w.length) : (∀ s ∈ shC t w, s ∈ dueR t w) ∧ ∀ s ∈ dueR t w, ∃ c ∈ shC t w, c.length < s.length ∨ c = s := by
  have haw := ha_lt' (t := t) w0
  have hbw := hb_lt' (t := t) w0
  unfold dueR
  by_cases big : 10 < w.length
  · rw [if_pos big]
    constructor
    · intro s hs
      rw [List.mem_append]
      have cv := shC_cvd w0 hs
      rcases mem_shC.mp hs with ⟨c, rfl⟩ | ⟨f, l, hf, hl, c, rfl⟩
      · left; rw [if_neg c]; exact List.mem_cons_self
      · right
        have e := shB_trC (t := t) (w := w) (f := f) (l := l) (by omega) (by omega)
        rw [e] at cv
        refine mem_trR.mpr ⟨_, mem_outR.mpr ?_, _, mem_outR.mpr ?_, cv, e⟩
        · by_cases z : f = 0
          · rw [if_pos z]; exact .inl rfl
          · rw [if_neg z]
            have := hf.resolve_left z
            exact .inr ⟨by omega, by rw [this]⟩
        · by_cases z : l = 0
          · rw [if_pos z]; exact .inl rfl
          · rw [if_neg z]
            have := hl.resolve_left z
            exact .inr ⟨by omega, by rw [this]⟩
    · intro s hs
      rcases List.mem_append.mp hs with hs | hs
      · by_cases c : lies w t = []
        · rw [if_pos c] at hs; cases hs
        · rw [if_neg c] at hs
          rw [List.mem_singleton.mp hs]
          exact ⟨w, mem_shC.mpr (.inl ⟨c, rfl⟩), .inr rfl⟩
      · obtain ⟨a, h1, b, h2, c, rfl⟩ := mem_trR.mp hs
        refine trial_shC t0 w0 ?_ ?_ c
        · rcases mem_outR.mp h1 with h | ⟨h, h3⟩ <;> omega
        · rcases mem_outR.mp h2 with h | ⟨h, h3⟩ <;> omega
  · rw [if_neg big]
    constructor
    · intro s hs
      have cv := shC_cvd w0 hs
      rcases mem_shC.mp hs with ⟨c, rfl⟩ | ⟨f, l, hf, hl, c, rfl⟩
      · obtain ⟨p, hp⟩ := List.exists_mem_of_ne_nil _ c
        have h2 := lies_lt hp
        have e := within_trC hp
        rw [e] at cv
        have cv : cvd (trC t s p (s.length - (p + t.length))) s = true := by rw [← e]; rw [← e] at cv; exact cv
        exact mem_trR.mpr ⟨p, List.mem_range.mpr (by omega), _, List.mem_range.mpr (by omega), cv, e⟩
      · have e := shB_trC (t := t) (w := w) (f := f) (l := l) (by omega) (by omega)
        rw [e] at cv
        refine mem_trR.mpr ⟨_, List.mem_range.mpr ?_, _, List.mem_range.mpr ?_, cv, e⟩
        · by_cases z : f = 0
          · rw [if_pos z]; exact w0
          · rw [if_neg z]; omega
        · by_cases z : l = 0
          · rw [if_pos z]; exact w0
          · rw [if_neg z]; omega
    · intro s hs
      obtain ⟨a, h1, b, h2, c, rfl⟩ := mem_trR.mp hs
      exact trial_shC t0 w0 (List.mem_range.mp h1) (List.mem_range.mp h2) c
theorem due_same (t0 : 0 < t.length) (w0 : 0 < w.length) : (shC t w = [] ↔ dueR t w = []) ∧ ∀ c cs d ds, shC t w = c :: cs → dueR t w = d :: ds → mnT d ds = mnT c cs := by
  obtain ⟨h1, h2⟩ := due_shC t0 w0
  refine ⟨⟨fun h => ?_, fun h => ?_⟩, fun c cs d ds e1 e2 => ?_⟩
  · cases q : dueR t w with
    | nil => rfl
    | cons d ds =>
      obtain ⟨c, hc, _⟩ := h2 d (by rw [q]; exact List.mem_cons_self)
      rw [h] at hc; cases hc
  · cases q : shC t w with
    | nil => rfl
    | cons d ds =>
      have := h1 d (by rw [q]; exact List.mem_cons_self)
      rw [h] at this; cases this
  · rw [e1, e2] at h1 h2
    exact (mnT_same h1 h2).symm
end
end Ov
namespace MV
open PySem PySem.Spec PyProof.Rows L2
def spPV (K : PySem.W.Frag) (cv : Str → Value) (m : Nat) (F : List D → FR) : Sp := fun vs H Q E => vs.length = m ∧ ∃ A ds, Ex A H ∧ RpL K true A vs ds ∧ match F ds with
  | .ok d _ => ∀ v H', Ex H H' → Rp K true (rs H' (rs H A)) v d → Q v H'
  | .ex x _ => ∀ H', Ex H H' → E (cv x) none H'
  | .stuck => False
def sSetMM (i : Nat) (fa : M (List D)) (f : M D) : M Fl := bnd fa fun ds => fun e => if ds.length ≤ LIM then bnd f (fun d => fun e => match d with
  | .int k => if ds.length * k.toNat ≤ LIM ∧ -(2 ^ 63) ≤ k ∧ k < 2 ^ 63 then .ok .nx (e.set i (some (.lst (List.replicate k.toNat ds).flatten))) else .stuck
  | _ => .stuck) e else .stuck
section
variable {X : Cx} {cf : Cf} {W : WX} {c : Cls} {n n1 n2 : Bool}
theorem sd_callPV {F : List D → FR} {m : Nat} {ta : TA} {fa : M (List D)} (h : SdA cf W .S ta fa) (hm : ∀ ds env env', fa env = .ok ds env' → ds.length = m) : Sd cf W .S false (tCallS (spPV cf.K cf.cv m F) (WE W) ta) (eCall F fa) := by
  refine Sd.mk (fun R Hs env σ H F0 wf r d env' q Q k => ?_) (fun R Hs env σ H F0 wf r x env' q Q k => ?_)
  · obtain ⟨ds, env1, q1, q2⟩ := bnd_ok q
    refine h.ok r q1 fun vs Hs1 H1 s1 r1 p1 => ?_
    refine ⟨by rw [p1.length]; exact hm _ _ _ q1, Hs1, ds, r1.exs, p1, ?_⟩
    cases qf : F ds with
    | ok d' io =>
      rw [qf] at q2
      cases q2
      intro v H' x pv
      have pv' : Rp cf.K true (grow Hs1 H1 H') v d := pv.mono fun a o ha => by
        cases z : H1 a with
        | none =>
          rw [grow_none z]
          exact rs_sub _ _ a o ha
        | some u =>
          rw [grow_some z]
          cases y : Hs1 a with
          | none => rw [rs_some (show rs H1 Hs1 a = some u by rw [rs_none y]; exact z)] at ha; cases ha
          | some u2 =>
            have h1 := x a u2 (r1.exs a u2 y)
            have h2 := rs_sub _ _ a o ha
            rw [h1] at h2; exact h2
      exact k v (grow Hs1 H1 H') H' (s1.trans (Stp.grow r1.exs x)) (r1.grow x) pv' fun z => by cases z
    | ex x io => rw [qf] at q2; cases q2
    | stuck => rw [qf] at q2; cases q2
  · rcases bnd_ex q with q | ⟨ds, env1, q1, q2⟩
    · exact h.exn r q k
    · refine h.ok r q1 fun vs Hs1 H1 s1 r1 p1 => ?_
      refine ⟨by rw [p1.length]; exact hm _ _ _ q1, Hs1, ds, r1.exs, p1, ?_⟩
      cases qf : F ds with
      | ok d' io => rw [qf] at q2; cases q2
      | ex x' io =>
        rw [qf] at q2
        cases q2
        intro H' x
        exact k (grow Hs1 H1 H') H' (s1.trans (Stp.grow r1.exs x)) (r1.grow x)
      | stuck => rw [qf] at q2; cases q2
theorem se_callPV {F : List D → FR} {m k : Nat} {f : Addr} {fd : FuncData} {ps : List Str} {x : Str} {e : Expr} {es : List Expr} {ta : TA} {fa : M (List D)} {p pos : Pos} (hK : cf.K = X.K) (tk : L2N.Takes X W) (G : FnOk X.prog X.w X.K X.mg X.base (L2N.CX X.prog X.w) k f fd ps (spPV X.K cf.cv m F)) (hr : Room k X.A) (hg : Gl X x) (hm : X.mg x = some (.ref f)) (hkp : PySem.W.keepIn X.K (.ref f) = true) (hb : Binds X.K fd ps []) (ha : SA X cf W .S (e :: es) ta fa) (hl : ∀ ds env env', fa env = .ok ds env' → ds.length = m)
    (hdb : (x == ("__debug__" : Str)) = false := by decide) (he : starEach (e :: es) X.env = (false, eval e X.env) :: starEach es X.env := by rfl) (hpl : (backTo pos (starEach es X.env)).any (·.1) = false := by rfl) :
    SE X cf W .S false (.Call (.Name x p) (e :: es) [] pos) (tCallS (spPV cf.K cf.cv m F) (WE W) ta) (eCall F fa) := by
  refine ⟨?_, sd_callPV ha.s hl⟩
  rw [hK]
  exact pe_callS G hr hg hm hkp hb (fun σ => L2N.passAt tk σ) ha.p hdb he hpl
theorem ss_setMM {i : Nat} {x : Str} {es : List Expr} {e : Expr} {ta : TA} {te : TE} {fa : M (List D)} {f : M D} {pos' bpos lpos pos : Pos} (h : SA X cf W .N es ta fa) (h2 : SE X cf W .V n e te f) (hk : cf.kd i = .M) (hN : X.N.Nodup) (hi : X.N[i]? = some x) (hx : Loc X.env.scope x) (hs : swapsWith (.BinOp (.List es lpos) .Mult e bpos) (some (.Name x pos')) pos.line X.env = pure false := by rfl) (hf : X.fn x = true ∨ X.env.scope.names.lookup x = some .local := by first | exact .inl rfl | exact .inr rfl | assumption) :
    SS X cf W (.Assign [.Name x pos'] (.BinOp (.List es lpos) .Mult e bpos) pos) (sSetMM i fa f) := by
  refine ⟨_, ps_set hN hi hx (pe_op op_rep (pe_lst h.p) h2.p) hs hf, fun R Hs env σ H F wf r D hp => ?_⟩
  refine h.s.bind r hp (fun _ _ _ h => h) fun ds env1 vs Hs1 H1 s1 r1 p1 hp => ?_
  have p1 : RpL cf.K true (rs Hs1 R.H0) vs ds := p1
  split at hp
  · rename_i hl
    refine ⟨by rw [p1.length]; exact lim_sz hl, fun b nb => ?_⟩
    have x1 := Ex.new (o := .lst vs) nb
    have r2 := r1.grow x1
    have hp := Post.mono (s1.ex.trans (Ex.grow r1.exs x1)) hp
    refine h2.s.bind r2 hp fun d env2 v Hs2 H2 s2 r3 p3 _ hp => ?_
    cases d with
    | int k =>
      simp only at hp
      split at hp
      · rename_i hc
        obtain ⟨c1, c2, c3⟩ := hc
        have p3 : Rp cf.K true _ v (.int k) := p3
        have hb2 : H2 b = some (.lst vs) := s2.keep b _ (fun m => (r1.wdom b m).1 nb) upd_same
        refine ⟨b, k, vs, rfl, p3.int_inv, hb2, c2, c3, by rw [p1.length]; exact lim_sz c1, fun p np => ?_⟩
        have p4 : RpL cf.K true (rs Hs2 R.H0) vs ds := p1.mono (rs_mono ((Ex.grow r1.exs x1).trans s2.ex))
        obtain ⟨Hs3, F3, e3, r4⟩ := fin_ML (p := p) hk r3 (Ex.new (o := .lst (List.replicate k.toNat vs).flatten) np) np upd_same (p4.rep k.toNat)
        exact hp Hs3 _ _ F3 wf (s2.ex.trans e3) r4
      · exact hp.elim
    | _ => exact hp.elim
  · exact hp.elim
end
section
variable {P : Program} {w : World} {K : PySem.W.Frag} {mg : Str → Option Value} {base : Heap}
theorem fn_PV {x qual : Str} {st : Stmt} {f : Addr} {fd : FuncData} (N ps : List Str) (mN mP : Nat) {k : Nat} (cf : Cf) (g : M Fl) (hN : N.length = mN) (hP : ps.length = mP) (F : Fun K x qual st f fd) (S : FnScope N ps (defScope st)) (hK : cf.K = K) (hk : ∀ i, i < ps.length → cf.kd i = .N)
    (hbody : ∀ (cdv : Value) (A : Around) (outer : List Env) (s : Shared) (H : Hp) (E : XK), Room k (A.deeper (envOfC qual (defScope st) s.heap.objs.size f cdv)) → L2N.Takes (cxOf (L2N.CX P w) P w K mg base N qual (defScope st) f cdv A outer s H E) (fun cls d _ H => E cls d H) →
      PassesOwn (model P w) (A.deeper (envOfC qual (defScope st) s.heap.objs.size f cdv)) (envOfC qual (defScope st) s.heap.objs.size f cdv) (cxOf (L2N.CX P w) P w K mg base N qual (defScope st) f cdv A outer s H E).xe →
      SSs (cxOf (L2N.CX P w) P w K mg base N qual (defScope st) f cdv A outer s H E) cf (fun cls d _ H => E cls d H) (defBody st) g) :
    FnOk P w K mg base (L2N.CX P w) (k + 1) f fd ps (spPV K cf.cv mP (runF mN g)) := by
  subst hN hP
  refine okN F S (fun vs H Q E h => h.1) (fun cdv A outer s H vs Q E hr h => ?_)
  obtain ⟨hl, A0, ds, exA, hd, h⟩ := h
  obtain ⟨t, p, sd⟩ := hbody cdv A outer s H E hr (L2N.takes_of rfl rfl rfl rfl) (passes_of rfl)
  refine ⟨t, p, ?_⟩
  have r : Rel cf ⟨rs H A0, none⟩ H (envOf N.length ds) (L2.start N vs) H (fun _ => []) [] :=
    { len := env_len hd.length
      exs := Ex.refl _
      ex0 := fun a o h _ => rs_sub _ _ a o h
      dom0 := fun a h z => h (by
        show rs H A0 a = none
        cases w : A0 a with
        | none => rw [rs_none w]; exact z
        | some o => rw [rs_some w])
      slot := fun i d q => by
        have q := envOf_get q
        obtain ⟨v, h1, h2⟩ := hd.get q
        refine ⟨v, start_get h1, ?_⟩
        rw [hk i (by rw [← hl, hd.length]; exact (List.getElem?_eq_some_iff.mp q).1), hK]
        exact h2.mono fun a o ha => by
          show rs H (rs H A0) a = some o
          rw [rs_none (rs_some ha)]
          exact exA a o ha
      nod := fun _ => List.nodup_nil
      dis := fun _ _ _ _ m => by cases m
      fdom := fun _ _ m => by cases m
      uns := fun _ _ m => by cases m
      new := fun _ _ m => by cases m
      volw := fun _ _ _ m => by cases m
      volb := fun _ _ _ m => by cases m
      wdom := fun _ m => by cases m
      ior := fun p h => by cases h }
  refine sd _ _ _ _ _ _ _ r _ ?_
  unfold runF at h
  have exH : ∀ {Hs' H' : Hp} {env' : PEnv} {σ' : L2.St} {F' : Nat → List Addr} {wf' : List Addr}, Ex H Hs' → Rel cf ⟨rs H A0, none⟩ Hs' env' σ' H' F' wf' → Ex H H' := fun e r' a o ha => r'.exs a o (e a o ha)
  cases q : g (envOf N.length ds) with
  | stuck => rw [q] at h; exact h.elim
  | ex c e =>
    rw [q] at h
    exact fun Hs' σ' H' F' wf' e r' => h H' (exH e r')
  | ok fl e =>
    rw [q] at h
    cases fl with
    | nx => exact fun Hs' σ' H' F' wf' e r' => h .non H' (exH e r') .non
    | rt d => exact fun v Hs' σ' H' F' wf' e r' pv => h v H' (exH e r') (by
        rw [← hK]
        exact pv.mono fun a o ha => by
          have ha : rs (rm H' wf') (rs H A0) a = some o := ha
          cases z : rs H A0 a with
          | none => rw [rs_none z] at ha ⊢; exact rm_sub _ _ a o ha
          | some u => rw [rs_some z] at ha; cases ha)
    | bk => exact h.elim
    | ct => exact h.elim
end
end MV
namespace MV
open PySem PySem.Spec PyProof.Rows L2
section
variable {prog : Program} {w : World} {A : Around} {E : Value → Shared → Prop} {s : Shared}
theorem draw_lst {it t : Addr} {items : Array Value} (hne : t ≠ it) : ∀ (n i : Nat) (s : Shared) (Q : List Value → Shared → Prop), s.heap.IsListIter it t i → s.heap.IsList t items → i + n ≤ items.size →
    (∀ h', h'.IsListIter it t (i + n) → Heap.SameBut it s.heap h' → Q ((items.toList.drop i).take n) { s with heap := h' }) → wpAny (model prog w) A (draw (.ref it) n) Q E s
  | 0, i, s, Q, hit, _, _, hQ => by
    show wpAny _ _ (pure []) Q E s
    exact wpAny_pure (by simpa using hQ s.heap hit (Heap.SameBut.refl ..))
  | n + 1, i, s, Q, hit, ht, hle, hQ => by
    have hlt : i < items.size := by omega
    show wpAny _ _ (pyNext (.ref it) >>= _) Q E s
    refine wpAny_bind (wpAny_pyNext_list_item hit ht (x := items[i]) (by simp [hlt]) fun h₁ hit₁ hs₁ => ?_)
    refine wpAny_bind (wpAny_holding (draw_lst hne n (i + 1) _ _ hit₁ (ht.extBut hs₁.extBut hne) (by omega) fun h₂ hit₂ hs₂ => wpAny_pure ?_))
    have hd : items.toList.drop i = items[i] :: items.toList.drop (i + 1) := by simp [List.drop_eq_getElem_cons, hlt]
    have := hQ h₂ (by rw [show i + (n + 1) = i + 1 + n by omega]; exact hit₂) (hs₁.trans hs₂)
    rw [hd, List.take_succ_cons] at this
    exact this
theorem unpackItems_lst {t : Addr} {items : Array Value} {Q : List Value → Shared → Prop} (hh : A.handled = none) (ht : s.heap.IsList t items)
    (hQ : ∀ h', Heap.ExtBut s.heap.objs.size s.heap h' → Q items.toList { s with heap := h' }) : wpAny (model prog w) A (unpackItems (.ref t) items.size none) Q E s := by
  have hlt : t ≠ s.heap.objs.size := by obtain ⟨o, ho, _⟩ := ht; exact Nat.ne_of_lt (Heap.lt_size ho)
  unfold unpackItems
  refine wpAny_bind ?_
  unfold notIterableAtAll
  refine wpAny_bind (wpAny_specialOf ht.typeIs PySem.F.slot_list_iter.lookup ?_)
  refine wpAny_pure ?_
  simp only [Bool.false_eq_true, if_false]
  refine wpAny_bind (wpAny_holding (wpAny_pyIter_list ht ?_))
  refine wpAny_bind (wpAny_holding (draw_lst hlt items.size 0 _ _ ⟨_, Heap.get?_push_size _ rfl, rfl, rfl⟩ (ht.push _) (by omega) fun h₁ hit₁ hs₁ => ?_))
  have hall : List.take items.size (List.drop 0 items.toList) = items.toList := by
    rw [List.drop_zero]; exact List.take_of_length_le (by simp)
  rw [hall]
  rw [if_neg (by simp)]
  have ht₁ : h₁.IsList t items := (ht.push _).extBut hs₁.extBut hlt
  refine wpAny_bind (wpAny_holding (wpAny_pyNext_list_end hh (by simpa using hit₁) ht₁ (by simp) fun h₂ he₂ => ?_))
  simp only [Option.isSome_none, Bool.false_eq_true, if_false]
  refine wpAny_pure (hQ h₂ fun b o hb e => he₂ b o hb (hs₁.extBut b o hb (Heap.get?_push_of_some _ e)))
theorem unpack_lst {t : Addr} {items : Array Value} {targets : List (Bool × (Value → Sem Unit))} {Q : Unit → Shared → Prop} (hh : A.handled = none) (ht : s.heap.IsList t items)
    (hn : targets.length = items.size) (hstar : targets.findIdx? (·.1) = none)
    (h : ∀ h', Heap.ExtBut s.heap.objs.size s.heap h' → wpAny (model prog w) A (assignInOrder (targets.map (·.2)) items.toList) Q E { s with heap := h' }) :
    wpAny (model prog w) A (unpack (.ref t) targets) Q E s := by
  unfold unpack
  rw [hn, hstar]
  exact wpAny_bind (wpAny_holding (unpackItems_lst hh ht h))
end
section
variable {X : Cx} {cf : Cf} {W : WX} {c : Cls} {n n1 n2 : Bool}
def gTupL (K : PySem.W.Frag) (n : Nat) (t : TGs) : TG := fun v σ H Q => ∃ a xs, v = .ref a ∧ SqL K H a xs ∧ xs.length = n ∧ t xs σ H Q
theorem pg_tupL {es : List Expr} {k : Nat} {t : TGs} {n : Nat} {pos : Pos} (hc : X.calm = true) (h : PGs X es t)
    (hn : (assignEach es X.env).length = n := by rfl) (hst : (assignEach es X.env).findIdx? (·.1) = none := by rfl) : PG X (.Tuple es k pos) (gTupL X.K n t) := by
  refine ⟨fun pins s σ H v u Q I r hw => ?_⟩
  obtain ⟨a, xs, e1, hq, hl, hw⟩ := hw
  subst e1
  cases r
  obtain ⟨its, rv, ht, hz⟩ := I.list hq
  rw [assign_Tuple]
  refine wpAny_bind (wpAny_standAt (unpack_lst (I.ok.hd hc) ht.isList (by simp [hn, ← hl, rv.length]) hst fun h' hx => ?_))
  have I1 : Inv X pins σ H { s with heap := h' } := I.kept (t' := s.toks) fun b o e => hx b o (Nat.ne_of_lt (Heap.lt_size e)) e
  exact h.run pins _ σ H xs _ Q I1 (by simpa using rv) hw
def tgL (is : List Nat) : D → M Unit := fun d e => match d with
  | .lst ds => match setAll is ds e with
    | some e' => .ok () e'
    | none => .stuck
  | _ => .stuck
@[simp] theorem r_tgL {is : List Nat} {ds : List D} {e : PEnv} : tgL is (.lst ds) e = ro (setAll is ds e) fun e' => .ok () e' := by
  cases q : setAll is ds e <;> simp [tgL, ro, q]
theorem setAll_len : ∀ (js : List Nat) (ds : List D) (e e' : PEnv), setAll js ds e = some e' → ds.length = js.length := by
  intro js
  induction js with
  | nil => intro ds e e' q; cases ds with
    | nil => rfl
    | cons _ _ => rw [setAll] at q <;> first | cases q | (intros; rintro ⟨⟩)
  | cons j js ih => intro ds e e' q; cases ds with
    | nil => rw [setAll] at q <;> first | cases q | (intros; rintro ⟨⟩)
    | cons d ds => rw [setAll] at q; rw [List.length_cons, List.length_cons, ih ds _ _ q]
theorem sgt_tupL {is js : List Nat} {es : List Expr} {g : TGs} {k : Nat} {pos : Pos} (hK : cf.K = X.K) (hc : X.calm = true) (h : SGts X cf is js es g) (hl : es.length = js.length)
    (hn : (assignEach es X.env).length = js.length := by rfl) (hst : (assignEach es X.env).findIdx? (·.1) = none := by rfl) : SGt X cf is (.Tuple es k pos) (gTupL cf.K js.length g) (tgL js) := by
  rw [hK]
  obtain ⟨p, s⟩ := h
  refine ⟨pg_tupL hc p hn hst, fun R Hs env σ H F wf r d v p Q => ?_⟩
  cases d with
  | lst ds =>
    cases q : setAll js ds env with
    | none =>
      have e1 : tgL js (.lst ds) env = .stuck := by simp only [tgL, q]
      rw [e1]; trivial
    | some env' =>
      have e1 : tgL js (.lst ds) env = .ok () env' := by simp only [tgL, q]
      rw [e1]
      intro kk
      obtain ⟨a, xs, rfl, h1, h2⟩ := p.lst_inv
      refine ⟨a, xs, rfl, .inl (.inl (r.exs _ _ h1)), by rw [h2.length, setAll_len js ds env env' q], ?_⟩
      exact s R Hs env σ H F wf r ds xs h2 Q env' q kk
  | _ => unfold tgL; trivial
end
end MV
namespace Ov
open PySem MV
def B__law_kind_v2 : M Fl := (sSeq (sSet 1 (eN gLst (aCons (e1 (gIsX [(Str.ofString "NoWord"), (Str.ofString "NoSign"), (Str.ofString "NoText"), (Str.ofString "NoCover")] (Str.ofString "NoWord")) (eV 0)) (aCons (e1 (gIsX [(Str.ofString "NoWord"), (Str.ofString "NoSign"), (Str.ofString "NoText"), (Str.ofString "NoCover")] (Str.ofString "NoSign")) (eV 0)) (aCons (e1 (gIsX [(Str.ofString "NoWord"), (Str.ofString "NoSign"), (Str.ofString "NoText"), (Str.ofString "NoCover")] (Str.ofString "NoText")) (eV 0)) aNil)))))
  (sSeq (sSet 1 (e2 gAdd (eV 1) (eN gLst (aCons (e1 (gIsX [(Str.ofString "NoWord"), (Str.ofString "NoSign"), (Str.ofString "NoText"), (Str.ofString "NoCover")] (Str.ofString "NoCover")) (eV 0)) (aCons (e1 (gIsX [(Str.ofString "NoWord"), (Str.ofString "NoSign"), (Str.ofString "NoText"), (Str.ofString "NoCover")] (Str.ofString "NoNumber")) (eV 0)) (aCons (e1 (gIsX [(Str.ofString "NoWord"), (Str.ofString "NoSign"), (Str.ofString "NoText"), (Str.ofString "NoCover")] (Str.ofString "TooMany")) (eV 0)) aNil))))))
  (sSeq (sSet 2 (e1 (gIsXT [(Str.ofString "NoWord"), (Str.ofString "NoSign"), (Str.ofString "NoText"), (Str.ofString "NoCover")] [(Str.ofString "NoChain"), (Str.ofString "NoForm"), (Str.ofString "NoneYet")]) (eV 0)))
  (sSeq (sIf (tOr2 (tTr (eV 2)) (tOr2 (tNot1 (tB (e1 (gIsX [(Str.ofString "NoWord"), (Str.ofString "NoSign"), (Str.ofString "NoText"), (Str.ofString "NoCover")] (Str.ofString "ValueError")) (eV 0)))) (tB (e2 gNe (eM "list" gCount (eV 1) (aCons (eC (.bl true)) aNil)) (eC (.int 1)))))) (sRet (eC (.str (Str.ofString "odd")))) sSkip)
  (sRet (e2 gIx (eN gLst (aCons (eC (.str (Str.ofString "word"))) (aCons (eC (.str (Str.ofString "sign"))) (aCons (eC (.str (Str.ofString "text"))) (aCons (eC (.str (Str.ofString "cover"))) (aCons (eC (.str (Str.ofString "number"))) (aCons (eC (.str (Str.ofString "many"))) aNil))))))) (eM "list" gIndex (eV 1) (aCons (eC (.bl true)) aNil))))))))
def F__law_kind_v2 : List D → FR := runF 3 B__law_kind_v2
def B__law_ends_v2_l1 : M Fl := (sSeq (sSet 6 (e2 gSub (eV 2) (eV 5)))
  (sSeq (sIf (tAnd2 (tB (e2 gLe (eV 6) (eN gLen (aCons (eV 0) aNil)))) (tB (e2 gEq (eSl (eV 1) (oSome (eV 5)) oNone) (eSl (eV 0) oNone (oSome (eV 6)))))) (sSet 3 (eF (eN gLst (aCons (eC (.int 0)) (aCons (eV 5) aNil))))) sSkip)
  (sIf (tAnd2 (tB (e2 gLe (eV 6) (eN gLen (aCons (eV 0) aNil)))) (tB (e2 gEq (eSl (eV 1) oNone (oSome (eV 6))) (eSl (eV 0) (oSome (e2 gSub (eN gLen (aCons (eV 0) aNil)) (eV 6))) oNone)))) (sSet 4 (eF (eN gLst (aCons (eC (.int 0)) (aCons (eV 5) aNil))))) sSkip)))
def B__law_ends_v2 : M Fl := (sSeq (sSet 2 (eN gLen (aCons (eV 1) aNil)))
  (sSeq (sSet 3 (eN gLst (aCons (eC (.int 0)) aNil)))
  (sSeq (sSet 4 (eN gLst (aCons (eC (.int 0)) aNil)))
  (sSeq (sFor (iN gR3 (aCons (e2 gSub (eV 2) (eC (.int 1))) (aCons (eC (.int 0)) (aCons (e1 gNeg (eC (.int 1))) aNil)))) (tgN 5) B__law_ends_v2_l1)
  (sRet (eN gLst (aCons (eV 3) (aCons (eV 4) aNil))))))))
def F__law_ends_v2 : List D → FR := runF 7 B__law_ends_v2
def B__law_due_v26_l1 : M Fl := (sSeq (sSet 9 (e2 gAdd (e2 gAdd (eSl (eV 1) oNone (oSome (eV 6))) (eV 0)) (eSl (eV 1) (oSome (e2 gSub (eN gLen (aCons (eV 1) aNil)) (eV 8))) oNone)))
  (sIf (tB (eCall F__law_is_covered (aCons (eV 9) (aCons (eV 1) aNil)))) (sApp 5 (eN gTupD (aCons (eN gLen (aCons (eV 9) aNil)) (aCons (eV 9) aNil)))) sSkip))
def B__law_due_v26_l2 : M Fl := (sFor (iL (eV 4)) (tgN 8) B__law_due_v26_l1)
def B__law_due_v26 : M Fl := (sSeq (sSet 2 (e1 gLR1 (eN gLen (aCons (eV 1) aNil))))
  (sSeq (sPar 3 4 (aCons (eV 2) (aCons (eV 2) aNil)))
  (sSeq (sSetM 5 (eN gLst aNil))
  (sSeq (sIf (tB (e2 gGt (eN gLen (aCons (eV 1) aNil)) (eC (.int 10)))) (sSeq (sUnp (eCall F__law_ends_v2 (aCons (eV 0) (aCons (eV 1) aNil))) (tgL [3, 4]))
  (sSeq (sSet 7 (eLc [10] (iL (eV 2)) (tgN 10) (tB (e2 gEq (eSl (eV 1) (oSome (eV 10)) (oSome (e2 gAdd (eV 10) (eN gLen (aCons (eV 0) aNil))))) (eV 0))) (eV 10)))
  (sSetMM 5 (aCons (eN gTupD (aCons (eN gLen (aCons (eV 1) aNil)) (aCons (eV 1) aNil))) aNil) (eN gMin2 (aCons (eC (.int 1)) (aCons (eN gLen (aCons (eV 7) aNil)) aNil)))))) sSkip)
  (sSeq (sFor (iL (eV 3)) (tgN 6) B__law_due_v26_l2)
  (sSeq (sIf (tB (e2 gEq (eV 5) (eN gLst aNil))) (sRet (eC .non)) sSkip)
  (sRet (e2 gIx (eN gMinD (aCons (eV 5) aNil)) (eC (.int 1))))))))))
def F__law_due_v26 : List D → FR := runF 11 B__law_due_v26
def B__law_refused_v2_l1 : M Fl := (sDrop (eCall F_shown_with_rests_v2 (aCons (eV 0) (aCons (eV 1) aNil))))
def B__law_refused_v2 : M Fl := (sSeq (sSet 2 (eC .non))
  (sSeq (sTryK [(Str.ofString "NoWord"), (Str.ofString "NoSign"), (Str.ofString "NoText"), (Str.ofString "NoCover")] 2 3 B__law_refused_v2_l1)
  (sRet (eAndV (e2 gNotN (eV 2) (eC .non)) (e2 gEq (eCall F__law_kind_v2 (aCons (eV 2) aNil)) (eC (.str (Str.ofString "cover"))))))))
def F__law_refused_v2 : List D → FR := runF 4 B__law_refused_v2
def B__law_right_v35_l1 : M Fl := (sSeq (sIf (tB (e2 gIsN (eV 3) (eC .non))) (sIf (tNot1 (tB (eCall F__law_refused_v2 (aCons (e2 gIx (eV 2) (eC (.int 0))) (aCons (e2 gIx (eV 2) (eC (.int 1))) aNil))))) (sRet (eC (.bl false))) sSkip) (sSeq (sSetM 5 (eCall F_shown_with_rests_v2 (aCons (e2 gIx (eV 2) (eC (.int 0))) (aCons (e2 gIx (eV 2) (eC (.int 1))) aNil))))
  (sSeq (sIf (tOr2 (tNot1 (tB (eIsi "list" (eV 5)))) (tB (e2 gNe (eV 5) (eV 3)))) (sRet (eC (.bl false))) sSkip)
  (sApp 5 (eC (.str (Str.ofString "a")))))))
  (sIf (tB (e2 gNe (eV 2) (eN gLst (aCons (eV 0) (aCons (eV 1) aNil))))) (sRet (eC (.bl false))) sSkip))
def B__law_right_v35 : M Fl := (sSeq (sSet 2 (eN gLst (aCons (eN gList1 (aCons (eV 0) aNil)) (aCons (eN gList1 (aCons (eV 1) aNil)) aNil))))
  (sSeq (sSet 3 (eCall F__law_due_v26 (aCons (eV 0) (aCons (eV 1) aNil))))
  (sSeq (sFor (iN gR1 (aCons (eC (.int 2)) aNil)) (tgN 4) B__law_right_v35_l1)
  (sRet (eC (.bl true))))))
def F__law_right_v35 : List D → FR := runF 6 B__law_right_v35
def B_law_k20_l1 : M Fl := (sIf (tOr2 (tNot1 (tB (eCall F__law_right_v35 (aCons (eV 3) (aCons (eSl (eV 6) oNone (oSome (eC (.int 200)))) aNil))))) (tNot1 (tB (eCall F__law_right_v35 (aCons (eSl (eV 3) oNone (oSome (eC (.int 4)))) (aCons (eSl (eV 6) oNone (oSome (eC (.int 200)))) aNil)))))) (sRet (eC (.bl false))) sSkip)
def B_law_k20_l2 : M Fl := (sSeq (sSetW 2 (eCall F__law_deck (aCons (eV 1) aNil)))
  (sSeq (sUnp (eCallW F__law_pair 2 (aCons (eC (.bl true)) aNil)) (tgT [3, 4]))
  (sSeq (sSet 5 (eCallW F__law_take_v3 2 (aCons (e2 gAdd (eN gLen (aCons (eV 4) aNil)) (eC (.int 1))) aNil)))
  (sFor (iL (eN gLst (aCons (eV 4) (aCons (eOrT (eSl (eV 4) (oSome (eV 5)) oNone) (eV 4)) (aCons (e2 gAdd (eV 4) (eSl (eV 3) oNone (oSome (eC (.int 3))))) (aCons (e1 gRev (eV 4)) (aCons (eSl (eV 3) (oSome (e1 gNeg (eC (.int 4)))) oNone) aNil))))))) (tgN 6) B_law_k20_l1))))
def B_law_k20 : M Fl := (sSeq (sFor (iL (e2 gAdd (eSlQ 0 oNone (oSome (eC (.int 4)))) (eN gLst (aCons (eCallQ F__law_cell_at 0 (aCons (eC (.int 0)) aNil)) aNil)))) (tgN 1) B_law_k20_l2)
  (sRet (eC (.bl true))))
def F_law_k20 : List D → FR := runF 7 B_law_k20
end Ov
namespace Ov
open PySem (Str PyData)
open MV
theorem top_fold (p : Nat → Bool) : ∀ n, (List.range' 1 n).foldl (fun d k => if p k = true then k else d) 0 = topL p n
  | 0 => rfl
  | n + 1 => by
    rw [List.range'_1_concat, List.foldl_append, top_fold p n]
    show (if p (1 + n) = true then 1 + n else topL p n) = topL p (n + 1)
    rw [topL, Nat.add_comm 1 n]
theorem top_cut (p q : Nat → Bool) (m : Nat) (h1 : ∀ k, k ≤ m → p k = q k) : ∀ n, m ≤ n → (∀ k, m < k → k ≤ n → p k = false) → topL p n = topL q m
  | 0, h, _ => by
    have : m = 0 := by omega
    subst this; rfl
  | n + 1, h, h2 => by
    by_cases c : m = n + 1
    · have key : ∀ j, j ≤ n + 1 → topL p j = topL q j := by
        intro j
        induction j with
        | zero => intro _; rfl
        | succ j ih =>
          intro hj
          rw [topL, topL, h1 (j + 1) (by omega), ih (by omega)]
      rw [c]; exact key _ (Nat.le_refl _)
    · rw [topL, h2 (n + 1) (by omega) (Nat.le_refl _)]
      exact top_cut p q m h1 n (by omega) fun k a b => h2 k a (by omega)
section
variable {t w : List Str}
def haP (t w : List Str) (k : Nat) : Bool := decide (k ≤ t.length) && haB t w k
def hbP (t w : List Str) (k : Nat) : Bool := decide (k ≤ t.length) && hbB t w k
theorem ha_top (w0 : 0 < w.length) : topL (haP t w) (w.length - 1) = ha t w := by
  unfold ha
  refine top_cut _ _ _ (fun k hk => ?_) _ (Nat.min_le_right _ _) fun k h1 h2 => ?_
  · unfold haP; rw [decide_eq_true (by omega), Bool.true_and]
  · unfold haP; rw [decide_eq_false (by omega), Bool.false_and]
theorem hb_top (w0 : 0 < w.length) : topL (hbP t w) (w.length - 1) = hb t w := by
  unfold hb
  refine top_cut _ _ _ (fun k hk => ?_) _ (Nat.min_le_right _ _) fun k h1 h2 => ?_
  · unfold hbP; rw [decide_eq_true (by omega), Bool.true_and]
  · unfold hbP; rw [decide_eq_false (by omega), Bool.false_and]
theorem fold_two (p q : Nat → Bool) : ∀ (l : List Nat) (a b : Nat), l.foldl (fun (s : Nat × Nat) k => (if p k = true then k else s.1, if q k = true then k else s.2)) (a, b) = (l.foldl (fun d k => if p k = true then k else d) a, l.foldl (fun d k => if q k = true then k else d) b)
  | [], _, _ => rfl
  | k :: l, a, b => by rw [List.foldl_cons, List.foldl_cons, List.foldl_cons]; exact fold_two p q l _ _
theorem downs_rng (n : Nat) : rngC (n : Int) (-1) n = (List.range' 1 n).map fun k => D.int ((n + 1 - k : Nat) : Int) := by
  unfold rngC
  rw [List.range'_eq_map_range, List.map_map]
  refine List.map_congr_left fun k hk => ?_
  have := List.mem_range.mp hk
  show D.int ((n : Int) + (k : Nat) * (-1)) = D.int ((n + 1 - (1 + k) : Nat) : Int)
  congr 1
  omega
theorem ends20_val (ht : Tx t) (hw : Tx w) (w0 : 0 < w.length) (hl : t.length ≤ 400) (hl2 : w.length ≤ 400) : F__law_ends_v2 [dT t, dT w] = .ok (.lst [dN (outR w (ha t w)), dN (outR w (hb t w))]) (dT t) := by
  have z1 : (1 : Nat) ≤ PySem.sizeLine := by decide
  have z2 : (2 : Nat) ≤ PySem.sizeLine := by decide
  have hs : smallI ((w.length : Int) - 1) = true := small_of (by omega) (by omega)
  have h0 : smallI 0 = true := by decide
  have e0 : ((w.length : Int) - 1 - 0).toNat = w.length - 1 := by omega
  obtain ⟨e', g1, y5, y6, he⟩ := for_fold (tg := tgN 5) (b := B__law_ends_v2_l1) (φ := fun k : Nat => D.int ((w.length - 1 + 1 - k : Nat) : Int)) (fun (s : Nat × Nat) env => ∃ y5 y6, env = [some (dT t), some (dT w), some (.int (w.length : Int)), some (dN (outR w s.1)), some (dN (outR w s.2)), y5, y6]) (fun s k => (if haP t w k = true then k else s.1, if hbP t w k = true then k else s.2)) (List.range' 1 (w.length - 1)) (0, 0) [some (dT t), some (dT w), some (.int (w.length : Int)), some (.lst [.int 0]), some (.lst [.int 0]), none, none] ⟨none, none, rfl⟩
    (fun s k env hm hr => by
      obtain ⟨y5, y6, rfl⟩ := hr
      obtain ⟨k1, k2⟩ := List.mem_range'_1.mp hm
      have ek : w.length - 1 + 1 - k = w.length - k := by omega
      have e2 : (w.length : Int) - ((w.length - k : Nat) : Int) = (k : Int) := by omega
      have c1 := cutA_from w (w.length - k)
      have c2 := cutA_to t k
      have c3 := cutA_to w k
      have eq1 := gEq_dT (hw.drop (w.length - k)).ok (ht.take k).ok
      have eq2 := gEq_dT (hw.take k).ok (ht.drop (t.length - k)).ok
      have o1 : ∀ f, dN (outR w (if haP t w k = true then k else f)) = if haP t w k = true then .lst [.int 0, .int ((w.length - k : Nat) : Int)] else dN (outR w f) := fun f => by
        by_cases c : haP t w k = true
        · rw [if_pos c, if_pos c]; unfold outR; rw [if_neg (by omega)]; rfl
        · rw [if_neg c, if_neg c]
      have o2 : ∀ f, dN (outR w (if hbP t w k = true then k else f)) = if hbP t w k = true then .lst [.int 0, .int ((w.length - k : Nat) : Int)] else dN (outR w f) := fun f => by
        by_cases c : hbP t w k = true
        · rw [if_pos c, if_pos c]; unfold outR; rw [if_neg (by omega)]; rfl
        · rw [if_neg c, if_neg c]
      refine ⟨_, [some (dT t), some (dT w), some (.int (w.length : Int)), some (dN (outR w (if haP t w k = true then k else s.1))), some (dN (outR w (if hbP t w k = true then k else s.2))), some (.int ((w.length - k : Nat) : Int)), some (.int (k : Int))], .nx, rfl, ?_, .inl rfl, _, _, rfl⟩
      rw [o1, o2, ek]
      generalize dN (outR w s.1) = A
      generalize dN (outR w s.2) = B
      by_cases c : k ≤ t.length
      · have c' : (k : Int) ≤ (t.length : Int) := by omega
        have e4 : (t.length : Int) - (k : Int) = ((t.length - k : Nat) : Int) := by omega
        have c4 := cutA_from t (t.length - k)
        have p1 : haP t w k = decide (w.drop (w.length - k) = t.take k) := by unfold haP haB; rw [decide_eq_true c, Bool.true_and]
        have p2 : hbP t w k = decide (w.take k = t.drop (t.length - k)) := by unfold hbP hbB; rw [decide_eq_true c, Bool.true_and]
        rw [p1, p2]
        have gl : gLen [dT t] = some (.int (t.length : Int)) := by show some (D.int ((t.map D.str).length : Int)) = _; rw [List.length_map]
        by_cases q1 : w.drop (w.length - k) = t.take k
        · rw [decide_eq_true q1] at eq1 ⊢
          by_cases q2 : w.take k = t.drop (t.length - k)
          · rw [decide_eq_true q2] at eq2 ⊢
            simp [B__law_ends_v2_l1, e2, c', e4, cutA_map, c1, c2, c3, c4, eq1, eq2, z2, -List.map_take, -List.map_drop]
          · rw [decide_eq_false q2] at eq2 ⊢
            simp [B__law_ends_v2_l1, e2, c', e4, cutA_map, c1, c2, c3, c4, eq1, eq2, z2, -List.map_take, -List.map_drop]
        · rw [decide_eq_false q1] at eq1 ⊢
          by_cases q2 : w.take k = t.drop (t.length - k)
          · rw [decide_eq_true q2] at eq2 ⊢
            simp [B__law_ends_v2_l1, e2, c', e4, cutA_map, c1, c2, c3, c4, eq1, eq2, z2, -List.map_take, -List.map_drop]
          · rw [decide_eq_false q2] at eq2 ⊢
            simp [B__law_ends_v2_l1, e2, c', e4, cutA_map, c1, c2, c3, c4, eq1, eq2, z2, -List.map_take, -List.map_drop]
      · have c' : ¬ (k : Int) ≤ (t.length : Int) := by omega
        have p1 : haP t w k = false := by unfold haP; rw [decide_eq_false c, Bool.false_and]
        have p2 : hbP t w k = false := by unfold hbP; rw [decide_eq_false c, Bool.false_and]
        rw [p1, p2]
        simp [B__law_ends_v2_l1, e2, c'])
  rw [fold_two, top_fold, top_fold, ha_top w0, hb_top w0] at he
  have he : e' = [some (dT t), some (dT w), some (.int (w.length : Int)), some (dN (outR w (ha t w))), some (dN (outR w (hb t w))), y5, y6] := he
  subst he
  have dr := downs_rng (w.length - 1)
  rw [← dr] at g1
  have ew : ((w.length - 1 : Nat) : Int) = (w.length : Int) - 1 := by omega
  rw [ew] at g1
  simp only [F__law_ends_v2, r_runF, B__law_ends_v2]
  generalize dN (outR w (ha t w)) = A at *
  generalize dN (outR w (hb t w)) = B at *
  simp [z1, z2, hs, h0, e0, g1]
end
end Ov
namespace Ov
open PySem (Str PyData)
open MV
section
variable {t w : List Str}
def trO (t w : List Str) (a b : Nat) : List (List Str) := if cvd (trC t w a b) w = true then [trC t w a b] else []
def dL (cs : List (List Str)) : D := .lst (cs.map lenT)
theorem due20_in (ht : Tx t) (hw : Tx w) (w0 : 0 < w.length) (hl : t.length ≤ 300) (hl2 : w.length ≤ 300) {a b : Nat} (ha' : a < w.length) (hb' : b < w.length) {cs : List (List Str)} (hc : cs.length < 50000) {x2 x3 x4 x7 x9 x10 : Option D} :
    B__law_due_v26_l1 [some (dT t), some (dT w), x2, x3, x4, some (dL cs), some (.int (a : Int)), x7, some (.int (b : Int)), x9, x10] = .ok .nx [some (dT t), some (dT w), x2, x3, x4, some (dL (cs ++ trO t w a b)), some (.int (a : Int)), x7, some (.int (b : Int)), some (dT (trC t w a b)), x10] := by
  have z2 : (2 : Nat) ≤ PySem.sizeLine := by decide
  have es2 : (w.length : Int) - (b : Int) = ((w.length - b : Nat) : Int) := by omega
  have c1 := cutA_from w (w.length - b)
  have c2 := cutA_to w a
  have iv := is_covered_val (t := trC t w a b) (w := w) (((hw.take a).append ht).append (hw.drop _)) hw w0 (by rw [trC_len (by omega) (by omega)]; omega) (by omega)
  have ev : decide ((trC t w a b).length ≤ reach w.length 0 (lies (trC t w a b) w)) = cvd (trC t w a b) w := rfl
  rw [ev] at iv
  have L1 : (w.take a).length + t.length ≤ LIM := by rw [List.length_take]; show _ ≤ 100000; omega
  have L2 : (w.take a ++ t).length + (w.drop (w.length - b)).length ≤ LIM := by rw [List.length_append, List.length_take, List.length_drop]; show _ ≤ 100000; omega
  have L3 : (cs.map lenT).length < LIM := by rw [List.length_map]; show _ < 100000; omega
  have hT : trC t w a b = w.take a ++ t ++ w.drop (w.length - b) := rfl
  unfold trO
  generalize hC : trC t w a b = C at *
  have k1 : sSet 9 (e2 gAdd (e2 gAdd (eSl (eV 1) oNone (oSome (eV 6))) (eV 0)) (eSl (eV 1) (oSome (e2 gSub (eN gLen (aCons (eV 1) aNil)) (eV 8))) oNone)) [some (dT t), some (dT w), x2, x3, x4, some (dL cs), some (.int (a : Int)), x7, some (.int (b : Int)), x9, x10] = .ok .nx [some (dT t), some (dT w), x2, x3, x4, some (dL cs), some (.int (a : Int)), x7, some (.int (b : Int)), some (dT C), x10] := by
    generalize w.take a = A at c2 L1 L2 hT
    generalize w.drop (w.length - b) = B at c1 L2 hT
    generalize hS : A ++ t = S at L2 hT
    have mS : A.map D.str ++ t.map D.str = S.map D.str := by rw [← hS, List.map_append]
    have mW : S.map D.str ++ B.map D.str = C.map D.str := by rw [hT, List.map_append]
    simp [es2, cutA_map, c1, c2, L1, mS, L2, mW, -List.map_append]
  have k2 : sIf (tB (eCall F__law_is_covered (aCons (eV 9) (aCons (eV 1) aNil)))) (sApp 5 (eN gTupD (aCons (eN gLen (aCons (eV 9) aNil)) (aCons (eV 9) aNil)))) sSkip [some (dT t), some (dT w), x2, x3, x4, some (dL cs), some (.int (a : Int)), x7, some (.int (b : Int)), some (dT C), x10] = .ok .nx [some (dT t), some (dT w), x2, x3, x4, some (dL (cs ++ if cvd C w = true then [C] else [])), some (.int (a : Int)), x7, some (.int (b : Int)), some (dT C), x10] := by
    cases q : cvd C w with
    | true =>
      rw [q] at iv
      rw [if_pos rfl]
      have eL : dL (cs ++ [C]) = .lst (cs.map lenT ++ [.tup [.int (C.length : Int), dT C]]) := by unfold dL; rw [List.map_append]; rfl
      have gl : gLen [dT C] = some (.int (C.length : Int)) := by show some (D.int ((C.map D.str).length : Int)) = _; rw [List.length_map]
      rw [eL]
      unfold dL
      generalize cs.map lenT = CS at *
      generalize dT C = CC at *
      generalize dT w = WW at *
      simp [iv, gl, z2, L3]
    | false =>
      rw [q] at iv
      rw [if_neg (by decide), List.append_nil]
      generalize dL cs = CS
      generalize dT C = CC at *
      generalize dT w = WW at *
      simp [iv]
  unfold B__law_due_v26_l1
  rw [r_sSeq, k1, rb_ok, sqK_nx, k2]
theorem flat_take {α : Type} (g : Nat → List α) (B : List Nat) (i : Nat) (k : Nat) (h : B[i]? = some k) : (B.take (i + 1)).flatMap g = (B.take i).flatMap g ++ g k := by
  rw [List.take_add_one, h, List.flatMap_append]
  simp
theorem flat_len {α : Type} (g : Nat → List α) (m : Nat) (hg : ∀ k, (g k).length ≤ m) : ∀ B : List Nat, (B.flatMap g).length ≤ m * B.length
  | [] => by simp
  | b :: B => by
    have h1 := hg b
    have h2 := flat_len g m hg B
    rw [List.flatMap_cons, List.length_append, List.length_cons, Nat.mul_succ]
    omega
theorem trO_len (a b : Nat) : (trO t w a b).length ≤ 1 := by unfold trO; split <;> simp
theorem asL_N (B : List Nat) : asL (dN B) = some (B.map fun k : Nat => D.int (k : Int)) := by
  rfl
theorem due20_row (ht : Tx t) (hw : Tx w) (w0 : 0 < w.length) (hl : t.length ≤ 300) (hl2 : w.length ≤ 300) {a : Nat} {B : List Nat} (ha' : a < w.length) (hb' : ∀ b ∈ B, b < w.length) {cs : List (List Str)} (hc : cs.length + B.length < 50000) {x2 x3 x7 x8 x9 x10 : Option D} :
    ∃ y8 y9, B__law_due_v26_l2 [some (dT t), some (dT w), x2, x3, some (dN B), some (dL cs), some (.int (a : Int)), x7, x8, x9, x10] = .ok .nx [some (dT t), some (dT w), x2, x3, some (dN B), some (dL (cs ++ B.flatMap (trO t w a))), some (.int (a : Int)), x7, y8, y9, x10] := by
  obtain ⟨e', g1, y8, y9, he⟩ := for_inv (tg := tgN 8) (b := B__law_due_v26_l1) (ds := B.map fun k : Nat => D.int (k : Int)) (e := [some (dT t), some (dT w), x2, x3, some (dN B), some (dL cs), some (.int (a : Int)), x7, x8, x9, x10])
    (fun i e => ∃ y8 y9, e = [some (dT t), some (dT w), x2, x3, some (dN B), some (dL (cs ++ (B.take i).flatMap (trO t w a))), some (.int (a : Int)), x7, y8, y9, x10])
    ⟨x8, x9, by rw [List.take_zero, List.flatMap_nil, List.append_nil]⟩
    (fun i d e hd hi => by
      obtain ⟨y8, y9, rfl⟩ := hi
      rw [List.getElem?_map] at hd
      obtain ⟨b, hb2, rfl⟩ := Option.map_eq_some_iff.mp hd
      have hf := flat_len (trO t w a) 1 (trO_len a) (B.take i)
      have hti := List.length_take_le' i B
      have hcs : (cs ++ (B.take i).flatMap (trO t w a)).length < 50000 := by rw [List.length_append]; omega
      have r := due20_in ht hw w0 hl hl2 ha' (hb' b (List.mem_of_getElem? hb2)) hcs (x2 := x2) (x3 := x3) (x4 := some (dN B)) (x7 := x7) (x9 := y9) (x10 := x10)
      refine ⟨_, _, .nx, rfl, r, .inl rfl, some (.int (b : Int)), some (dT (trC t w a b)), ?_⟩
      rw [flat_take _ _ _ _ hb2, List.append_assoc])
  rw [List.length_map, List.take_length] at he
  subst he
  refine ⟨y8, y9, ?_⟩
  unfold B__law_due_v26_l2
  have iB : iL (eV 4) [some (dT t), some (dT w), x2, x3, some (dN B), some (dL cs), some (.int (a : Int)), x7, x8, x9, x10] = .ok (B.map fun k : Nat => D.int (k : Int)) [some (dT t), some (dT w), x2, x3, some (dN B), some (dL cs), some (.int (a : Int)), x7, x8, x9, x10] := by
    have := asL_N B
    generalize dN B = NB at *
    simp [this]
  rw [r_sFor, iB, rb_ok, g1]
theorem due20_rows (ht : Tx t) (hw : Tx w) (w0 : 0 < w.length) (hl : t.length ≤ 300) (hl2 : w.length ≤ 300) {A B : List Nat} (ha' : ∀ a ∈ A, a < w.length) (hb' : ∀ b ∈ B, b < w.length) (hA : A.length ≤ 20) (hB : B.length ≤ 20) {cs : List (List Str)} (hc : cs.length ≤ 2) {x2 x6 x7 x8 x9 x10 : Option D} :
    ∃ y6 y8 y9, sFor (iL (eV 3)) (tgN 6) B__law_due_v26_l2 [some (dT t), some (dT w), x2, some (dN A), some (dN B), some (dL cs), x6, x7, x8, x9, x10] = .ok .nx [some (dT t), some (dT w), x2, some (dN A), some (dN B), some (dL (cs ++ trR t w A B)), y6, x7, y8, y9, x10] := by
  obtain ⟨e', g1, y6, y8, y9, he⟩ := for_inv (tg := tgN 6) (b := B__law_due_v26_l2) (ds := A.map fun k : Nat => D.int (k : Int)) (e := [some (dT t), some (dT w), x2, some (dN A), some (dN B), some (dL cs), x6, x7, x8, x9, x10])
    (fun i e => ∃ y6 y8 y9, e = [some (dT t), some (dT w), x2, some (dN A), some (dN B), some (dL (cs ++ (A.take i).flatMap fun a => B.flatMap (trO t w a))), y6, x7, y8, y9, x10])
    ⟨x6, x8, x9, by rw [List.take_zero, List.flatMap_nil, List.append_nil]⟩
    (fun i d e hd hi => by
      obtain ⟨y6, y8, y9, rfl⟩ := hi
      rw [List.getElem?_map] at hd
      obtain ⟨a, ha2, rfl⟩ := Option.map_eq_some_iff.mp hd
      have hf := flat_len (fun a => B.flatMap (trO t w a)) 20 (fun a => by have := flat_len (trO t w a) 1 (trO_len a) B; omega) (A.take i)
      have hti := List.length_take_le' i A
      have hcs : (cs ++ (A.take i).flatMap fun a => B.flatMap (trO t w a)).length + B.length < 50000 := by rw [List.length_append]; omega
      obtain ⟨z8, z9, r⟩ := due20_row ht hw w0 hl hl2 (ha' a (List.mem_of_getElem? ha2)) hb' hcs (x2 := x2) (x3 := some (dN A)) (x7 := x7) (x8 := y8) (x9 := y9) (x10 := x10)
      refine ⟨_, _, .nx, rfl, r, .inl rfl, some (.int (a : Int)), z8, z9, ?_⟩
      rw [flat_take _ _ _ _ ha2, List.append_assoc])
  rw [List.length_map, List.take_length] at he
  subst he
  refine ⟨y6, y8, y9, ?_⟩
  have iB : iL (eV 3) [some (dT t), some (dT w), x2, some (dN A), some (dN B), some (dL cs), x6, x7, x8, x9, x10] = .ok (A.map fun k : Nat => D.int (k : Int)) [some (dT t), some (dT w), x2, some (dN A), some (dN B), some (dL cs), x6, x7, x8, x9, x10] := by
    have := asL_N A
    generalize dN A = NA at *
    simp [this]
  rw [r_sFor, iB, rb_ok, g1]
  rfl
theorem lay_lenT {c : List Str} (h : Tx c) : Lay 63 (lenT c) := lay_tup (n := 62) fun x hx => by
  rcases List.mem_cons.mp hx with rfl | hx
  · exact lay_int _
  · rw [List.mem_singleton.mp hx]; exact lay_dT (n := 61) h.ok
theorem lay_dL {cs : List (List Str)} (h : ∀ c ∈ cs, Tx c) : Lay 64 (dL cs) := lay_lst (n := 63) fun x hx => by
  obtain ⟨c, hc, rfl⟩ := List.mem_map.mp hx
  exact lay_lenT (h c hc)
theorem gEq_dL_nil {cs : List (List Str)} (h : ∀ c ∈ cs, Tx c) : gEq (dL cs) (.lst []) = some (.bl (decide (cs = []))) := by
  have tp : ∀ cs : List (List Str), toPs (cs.map lenT) = some (cs.map fun c => PyData.tuple [.int (c.length : Int), .list (c.map PyData.str)]) := fun cs => toPs_map (f := lenT) toP_lenT cs
  have P1 : ∀ cs : List (List Str), (dL cs).P = .list (cs.map fun c => PyData.tuple [.int (c.length : Int), .list (c.map PyData.str)]) := fun cs => P_of (by unfold dL; rw [D.toP, tp]; rfl)
  obtain ⟨k, h1, _, h3⟩ := gEq_cases (lay_dL h) (lay_dL (cs := []) (fun c hc => by cases hc)) (by
    rw [P1, P1]
    cases cs <;> simp [PySem.W.alike, PySem.W.alikeAll])
  have h1 : gEq (dL cs) (.lst []) = some (.bl k) := h1
  rw [h1]
  congr 2
  by_cases c : cs = []
  · subst c; rw [decide_eq_true rfl]; exact h3.mpr rfl
  · rw [decide_eq_false c]
    cases k with
    | false => rfl
    | true =>
      have := h3.mp rfl
      cases cs with
      | nil => exact absurd rfl c
      | cons a b => cases this
def dueD : List (List Str) → D
  | [] => .non
  | c :: cs => dT (mnT c cs)
theorem tx_trC (ht : Tx t) (hw : Tx w) (a b : Nat) : Tx (trC t w a b) := ((hw.take a).append ht).append (hw.drop _)
theorem tx_dueR (ht : Tx t) (hw : Tx w) : ∀ c ∈ dueR t w, Tx c := fun c hc => by
  have tr : ∀ A B, c ∈ trR t w A B → Tx c := fun A B h => by
    obtain ⟨a, _, b, _, _, rfl⟩ := mem_trR.mp h
    exact tx_trC ht hw a b
  unfold dueR at hc
  by_cases big : 10 < w.length
  · rw [if_pos big] at hc
    rcases List.mem_append.mp hc with hc | hc
    · by_cases z : lies w t = []
      · rw [if_pos z] at hc; cases hc
      · rw [if_neg z] at hc; rw [List.mem_singleton.mp hc]; exact hw
    · exact tr _ _ hc
  · rw [if_neg big] at hc
    exact tr _ _ hc
theorem outR_lt (w0 : 0 < w.length) {f : Nat} : (∀ a ∈ outR w f, a < w.length) ∧ (outR w f).length ≤ 2 := by
  refine ⟨fun a h => ?_, ?_⟩
  · rcases mem_outR.mp h with h | ⟨h, h2⟩ <;> omega
  · unfold outR; split <;> simp
theorem due20_end (ht : Tx t) (hw : Tx w) (w0 : 0 < w.length) (hl : t.length ≤ 300) (hl2 : w.length ≤ 300) {A B : List Nat} (ha' : ∀ a ∈ A, a < w.length) (hb' : ∀ b ∈ B, b < w.length) (hA : A.length ≤ 20) (hB : B.length ≤ 20) {cs : List (List Str)} (hc : cs.length ≤ 2) (htx : ∀ c ∈ cs ++ trR t w A B, Tx c) {x2 x7 : Option D} :
    ∃ e, (sSeq (sFor (iL (eV 3)) (tgN 6) B__law_due_v26_l2) (sSeq (sIf (tB (e2 gEq (eV 5) (eN gLst aNil))) (sRet (eC .non)) sSkip) (sRet (e2 gIx (eN gMinD (aCons (eV 5) aNil)) (eC (.int 1)))))) [some (dT t), some (dT w), x2, some (dN A), some (dN B), some (dL cs), none, x7, none, none, none] = .ok (.rt (dueD (cs ++ trR t w A B))) (some (dT t) :: e) := by
  obtain ⟨y6, y8, y9, r⟩ := due20_rows ht hw w0 hl hl2 ha' hb' hA hB hc (x2 := x2) (x6 := none) (x7 := x7) (x8 := none) (x9 := none) (x10 := none)
  have en := gEq_dL_nil htx
  rw [r_sSeq, r, rb_ok, sqK_nx]
  clear r
  generalize cs ++ trR t w A B = R at *
  generalize dN A = NA at *
  generalize dN B = NB at *
  cases R with
  | nil =>
    refine ⟨[some (dT w), x2, some NA, some NB, some (dL []), y6, x7, y8, y9, none], ?_⟩
    have en : gEq (dL []) (.lst []) = some (.bl true) := en
    generalize dL [] = LL at *
    generalize dT t = TT at *
    generalize dT w = WW at *
    simp [en, dueD, hsz0]
  | cons c r =>
    refine ⟨[some (dT w), x2, some NA, some NB, some (dL (c :: r)), y6, x7, y8, y9, none], ?_⟩
    have en : gEq (dL (c :: r)) (.lst []) = some (.bl false) := en
    have gm : gMinD [dL (c :: r)] = some (lenT (mnT c r)) := gMin_lenT c r
    have gi : gIx (lenT (mnT c r)) (.int 1) = some (dT (mnT c r)) := by unfold lenT; simp
    have dd : dueD (c :: r) = dT (mnT c r) := rfl
    rw [dd]
    generalize dL (c :: r) = LL at *
    generalize lenT (mnT c r) = MM at *
    generalize dT (mnT c r) = MT at *
    generalize dT t = TT at *
    generalize dT w = WW at *
    simp [en, gm, gi, hsz0]
theorem wi_rows (w0 : 0 < w.length) (t0 : 0 < t.length) : (List.replicate (min 1 ((List.range w.length).filter fun p => decide ((w.drop p).take t.length = t)).length) [lenT w]).flatten = (if lies w t = [] then ([] : List (List Str)) else [w]).map lenT := by
  have key : lies w t = [] ↔ ((List.range w.length).filter fun p => decide ((w.drop p).take t.length = t)) = [] := by
    constructor
    · intro h
      refine List.filter_eq_nil_iff.mpr fun p hp c => ?_
      have e := of_decide_eq_true c
      have hl : ((w.drop p).take t.length).length = t.length := by rw [e]
      rw [List.length_take, List.length_drop] at hl
      have : p ∈ lies w t := mem_lies_iff.mpr ⟨by have := List.mem_range.mp hp; omega, e⟩
      rw [h] at this; cases this
    · intro h
      cases q : lies w t with
      | nil => rfl
      | cons p r =>
        have hp : p ∈ lies w t := by rw [q]; exact List.mem_cons_self
        obtain ⟨h1, h2⟩ := mem_lies_iff.mp hp
        have := List.filter_eq_nil_iff.mp h p (List.mem_range.mpr (by omega))
        exact absurd (decide_eq_true h2) this
  by_cases c : lies w t = []
  · rw [if_pos c, key.mp c]; rfl
  · rw [if_neg c]
    have : 0 < ((List.range w.length).filter fun p => decide ((w.drop p).take t.length = t)).length := List.length_pos_iff.mpr fun z => c (key.mpr z)
    rw [Nat.min_eq_left this]; rfl
theorem due20_val (ht : Tx t) (hw : Tx w) (t0 : 0 < t.length) (w0 : 0 < w.length) (hl : t.length ≤ 300) (hl2 : w.length ≤ 300) : F__law_due_v26 [dT t, dT w] = .ok (dueD (dueR t w)) (dT t) := by
  have gl : gLen [dT w] = some (.int (w.length : Int)) := by show some (D.int ((w.map D.str).length : Int)) = _; rw [List.length_map]
  have glt : gLen [dT t] = some (.int (t.length : Int)) := by show some (D.int ((t.map D.str).length : Int)) = _; rw [List.length_map]
  have hs : smallI (w.length : Int) = true := small_of (by omega) (by omega)
  have lr : gLR1 (.int (w.length : Int)) = some (dN (List.range w.length)) := by
    have L : w.length ≤ LIM := by show _ ≤ 100000; omega
    rw [gLR1_i, hs, Int.toNat_natCast, decide_eq_true L, rng0]; rfl
  have k1 : sSet 2 (e1 gLR1 (eN gLen (aCons (eV 1) aNil))) [some (dT t), some (dT w), none, none, none, none, none, none, none, none, none] = .ok .nx [some (dT t), some (dT w), some (dN (List.range w.length)), none, none, none, none, none, none, none, none] := by
    generalize dN (List.range w.length) = NR at *
    generalize dT w = WW at *
    simp [gl, lr]
  have k2 : sPar 3 4 (aCons (eV 2) (aCons (eV 2) aNil)) [some (dT t), some (dT w), some (dN (List.range w.length)), none, none, none, none, none, none, none, none] = .ok .nx [some (dT t), some (dT w), some (dN (List.range w.length)), some (dN (List.range w.length)), some (dN (List.range w.length)), none, none, none, none, none, none] := by
    generalize dN (List.range w.length) = NR at *
    have ag : aCons (eV 2) (aCons (eV 2) aNil) [some (dT t), some (dT w), some NR, none, none, none, none, none, none, none, none] = .ok [NR, NR] [some (dT t), some (dT w), some NR, none, none, none, none, none, none, none, none] := by simp
    unfold sPar
    rw [bnd_of_ok ag]; rfl
  have k3 : sSetM 5 (eN gLst aNil) [some (dT t), some (dT w), some (dN (List.range w.length)), some (dN (List.range w.length)), some (dN (List.range w.length)), none, none, none, none, none, none] = .ok .nx [some (dT t), some (dT w), some (dN (List.range w.length)), some (dN (List.range w.length)), some (dN (List.range w.length)), some (dL []), none, none, none, none, none] := by
    generalize dN (List.range w.length) = NR at *
    simp [hsz0, dL]
  have tx := tx_dueR ht hw
  simp only [F__law_due_v26, r_runF]
  have e0 : envOf 11 [dT t, dT w] = [some (dT t), some (dT w), none, none, none, none, none, none, none, none, none] := rfl
  unfold B__law_due_v26
  rw [e0, r_sSeq, k1, rb_ok, sqK_nx, r_sSeq, k2, rb_ok, sqK_nx, r_sSeq, k3, rb_ok, sqK_nx, r_sSeq]
  by_cases big : 10 < w.length
  · have ed : dueR t w = (if lies w t = [] then [] else [w]) ++ trR t w (outR w (ha t w)) (outR w (hb t w)) := by unfold dueR; rw [if_pos big]
    rw [ed] at tx ⊢
    have big' : (10 : Int) < (w.length : Int) := by omega
    have ev := ends20_val ht hw w0 (by omega) (by omega)
    generalize hPL : ((List.range w.length).filter fun p => decide ((w.drop p).take t.length = t)) = PL
    have wr := wi_rows (t := t) (w := w) w0 t0
    rw [hPL] at wr
    have lPL : PL.length ≤ w.length := by rw [← hPL]; exact Nat.le_trans (List.length_filter_le _ _) (by rw [List.length_range]; exact Nat.le_refl _)
    obtain ⟨oa1, oa2⟩ := outR_lt (w := w) w0 (f := ha t w)
    obtain ⟨ob1, ob2⟩ := outR_lt (w := w) w0 (f := hb t w)
    obtain ⟨e, r⟩ := due20_end ht hw w0 hl hl2 oa1 ob1 (by omega) (by omega) (cs := if lies w t = [] then [] else [w]) (by split <;> simp) tx (x2 := some (dN (List.range w.length))) (x7 := some (dN PL))
    have q1 : sUnp (eCall F__law_ends_v2 (aCons (eV 0) (aCons (eV 1) aNil))) (tgL [3, 4]) [some (dT t), some (dT w), some (dN (List.range w.length)), some (dN (List.range w.length)), some (dN (List.range w.length)), some (dL []), none, none, none, none, none] = .ok .nx [some (dT t), some (dT w), some (dN (List.range w.length)), some (dN (outR w (ha t w))), some (dN (outR w (hb t w))), some (dL []), none, none, none, none, none] := by
      generalize dN (outR w (ha t w)) = A at *
      generalize dN (outR w (hb t w)) = B at *
      generalize dN (List.range w.length) = NR at *
      generalize dL [] = LL at *
      simp [ev]
    generalize hA : dN (outR w (ha t w)) = A at *
    generalize hB : dN (outR w (hb t w)) = B at *
    have lc := lc_pure (is := [10]) (tg := tgN 10) (t := tB (e2 gEq (eSl (eV 1) (oSome (eV 10)) (oSome (e2 gAdd (eV 10) (eN gLen (aCons (eV 0) aNil))))) (eV 0))) (fe := eV 10) (e := [some (dT t), some (dT w), some (dN (List.range w.length)), some A, some B, some (dL []), none, none, none, none, none]) (φ := fun k : Nat => D.int (k : Int)) (p := fun p => decide ((w.drop p).take t.length = t)) (g := fun k : Nat => D.int (k : Int)) (List.range w.length) [] (by rw [List.length_range]; show 0 + _ ≤ 100000; omega)
      (fun p hp => by
        have cm : cutA w (some (p : Int)) (some ((p : Int) + (t.length : Int))) = (w.drop p).take t.length := cutA_mid2 w p t.length
        have eq := gEq_dT ((hw.drop p).take t.length).ok ht.ok
        have z : (List.range w.length).length ≤ LIM := by rw [List.length_range]; show _ ≤ 100000; omega
        generalize hO : (w.drop p).take t.length = O at cm eq
        refine ⟨[some (dT t), some (dT w), some (dN (List.range w.length)), some A, some B, some (dL []), none, none, none, none, some (.int (p : Int))], [some (dT t), some (dT w), some (dN (List.range w.length)), some A, some B, some (dL []), none, none, none, none, some (.int (p : Int))], rfl, ?_, fun _ => ⟨[some (dT t), some (dT w), some (dN (List.range w.length)), some A, some B, some (dL []), none, none, none, none, some (.int (p : Int))], by simp, rfl⟩, fun _ => rfl⟩
        generalize dN (List.range w.length) = NR at *
        generalize dL [] = LL at *
        simp [cutA_map, cm, eq, hO, -List.map_take, -List.map_drop])
    rw [hPL, List.nil_append] at lc
    have lPN : (PL.map fun k : Nat => D.int (k : Int)) = (PL.map fun k : Nat => (k : Int)).map D.int := by rw [List.map_map]; rfl
    have q2 : sSet 7 (eLc [10] (iL (eV 2)) (tgN 10) (tB (e2 gEq (eSl (eV 1) (oSome (eV 10)) (oSome (e2 gAdd (eV 10) (eN gLen (aCons (eV 0) aNil))))) (eV 0))) (eV 10)) [some (dT t), some (dT w), some (dN (List.range w.length)), some A, some B, some (dL []), none, none, none, none, none] = .ok .nx [some (dT t), some (dT w), some (dN (List.range w.length)), some A, some B, some (dL []), none, some (dN PL), none, none, none] := by
      have iR := asL_N (List.range w.length)
      have ePL : dN PL = .lst (PL.map fun k : Nat => D.int (k : Int)) := rfl
      rw [ePL]
      generalize dN (List.range w.length) = NR at *
      generalize dL [] = LL at *
      simp [iR, lc]
    have gp : gLen [dN PL] = some (.int (PL.length : Int)) := by show some (D.int ((PL.map fun k : Nat => D.int (k : Int)).length : Int)) = _; rw [List.length_map]
    have mn := min_nat 1 PL.length
    have q3 : sSetMM 5 (aCons (eN gTupD (aCons (eN gLen (aCons (eV 1) aNil)) (aCons (eV 1) aNil))) aNil) (eN gMin2 (aCons (eC (.int 1)) (aCons (eN gLen (aCons (eV 7) aNil)) aNil))) [some (dT t), some (dT w), some (dN (List.range w.length)), some A, some B, some (dL []), none, some (dN PL), none, none, none] = .ok .nx [some (dT t), some (dT w), some (dN (List.range w.length)), some A, some B, some (dL (if lies w t = [] then [] else [w])), none, some (dN PL), none, none, none] := by
      have ag : aCons (eN gTupD (aCons (eN gLen (aCons (eV 1) aNil)) (aCons (eV 1) aNil))) aNil [some (dT t), some (dT w), some (dN (List.range w.length)), some A, some B, some (dL []), none, some (dN PL), none, none, none] = .ok [lenT w] [some (dT t), some (dT w), some (dN (List.range w.length)), some A, some B, some (dL []), none, some (dN PL), none, none, none] := by
        have z2 : (2 : Nat) ≤ PySem.sizeLine := by decide
        unfold lenT
        generalize dN (List.range w.length) = NR at *
        generalize dL [] = LL at *
        generalize dN PL = PP at *
        generalize dT w = WW at *
        simp [gl, z2]
      have bg : eN gMin2 (aCons (eC (.int 1)) (aCons (eN gLen (aCons (eV 7) aNil)) aNil)) [some (dT t), some (dT w), some (dN (List.range w.length)), some A, some B, some (dL []), none, some (dN PL), none, none, none] = .ok (.int ((min 1 PL.length : Nat) : Int)) [some (dT t), some (dT w), some (dN (List.range w.length)), some A, some B, some (dL []), none, some (dN PL), none, none, none] := by
        have mn : gMin2 [.int 1, .int (PL.length : Int)] = some (.int ((min 1 PL.length : Nat) : Int)) := mn
        generalize dN (List.range w.length) = NR at *
        generalize dL [] = LL at *
        generalize dN PL = PP at *
        generalize dT w = WW at *
        simp [gp, mn, -gMin2_i]
      unfold sSetMM
      rw [bnd_of_ok ag]
      have l1 : ([lenT w] : List D).length ≤ LIM := by show 1 ≤ 100000; decide
      show (if ([lenT w] : List D).length ≤ LIM then _ else _) = _
      rw [if_pos l1, bnd_of_ok bg]
      have m1 : min 1 PL.length ≤ 1 := Nat.min_le_left _ _
      show (if ([lenT w] : List D).length * (((min 1 PL.length : Nat) : Int)).toNat ≤ LIM ∧ -(2 ^ 63) ≤ (((min 1 PL.length : Nat) : Int)) ∧ (((min 1 PL.length : Nat) : Int)) < 2 ^ 63 then _ else _) = _
      rw [if_pos ⟨by rw [Int.toNat_natCast]; show 1 * _ ≤ 100000; omega, by omega, by omega⟩, Int.toNat_natCast, wr]
      rfl
    have k4 : sIf (tB (e2 gGt (eN gLen (aCons (eV 1) aNil)) (eC (.int 10)))) (sSeq (sUnp (eCall F__law_ends_v2 (aCons (eV 0) (aCons (eV 1) aNil))) (tgL [3, 4]))
  (sSeq (sSet 7 (eLc [10] (iL (eV 2)) (tgN 10) (tB (e2 gEq (eSl (eV 1) (oSome (eV 10)) (oSome (e2 gAdd (eV 10) (eN gLen (aCons (eV 0) aNil))))) (eV 0))) (eV 10)))
  (sSetMM 5 (aCons (eN gTupD (aCons (eN gLen (aCons (eV 1) aNil)) (aCons (eV 1) aNil))) aNil) (eN gMin2 (aCons (eC (.int 1)) (aCons (eN gLen (aCons (eV 7) aNil)) aNil)))))) sSkip [some (dT t), some (dT w), some (dN (List.range w.length)), some (dN (List.range w.length)), some (dN (List.range w.length)), some (dL []), none, none, none, none, none] = .ok .nx [some (dT t), some (dT w), some (dN (List.range w.length)), some A, some B, some (dL (if lies w t = [] then [] else [w])), none, some (dN PL), none, none, none] := by
      have tt : tB (e2 gGt (eN gLen (aCons (eV 1) aNil)) (eC (.int 10))) [some (dT t), some (dT w), some (dN (List.range w.length)), some (dN (List.range w.length)), some (dN (List.range w.length)), some (dL []), none, none, none, none, none] = .ok true [some (dT t), some (dT w), some (dN (List.range w.length)), some (dN (List.range w.length)), some (dN (List.range w.length)), some (dL []), none, none, none, none, none] := by
        generalize dN (List.range w.length) = NR at *
        generalize dL [] = LL at *
        generalize dT w = WW at *
        simp [gl, big']
      rw [r_sIf, tt, rb_ok, if_pos rfl, r_sSeq, q1, rb_ok, sqK_nx, r_sSeq, q2, rb_ok, sqK_nx, q3]
    rw [k4, rb_ok, sqK_nx, r]
    rfl
  · have ed : dueR t w = trR t w (List.range w.length) (List.range w.length) := by unfold dueR; rw [if_neg big]
    rw [ed] at tx ⊢
    have big' : ¬ (10 : Int) < (w.length : Int) := by omega
    have lt : ∀ a ∈ List.range w.length, a < w.length := fun a h => List.mem_range.mp h
    obtain ⟨e, r⟩ := due20_end ht hw w0 hl hl2 lt lt (by rw [List.length_range]; omega) (by rw [List.length_range]; omega) (cs := []) (by simp) tx (x2 := some (dN (List.range w.length))) (x7 := none)
    have tt : tB (e2 gGt (eN gLen (aCons (eV 1) aNil)) (eC (.int 10))) [some (dT t), some (dT w), some (dN (List.range w.length)), some (dN (List.range w.length)), some (dN (List.range w.length)), some (dL []), none, none, none, none, none] = .ok false [some (dT t), some (dT w), some (dN (List.range w.length)), some (dN (List.range w.length)), some (dN (List.range w.length)), some (dL []), none, none, none, none, none] := by
      generalize dN (List.range w.length) = NR at *
      generalize dL [] = LL at *
      generalize dT w = WW at *
      simp [gl, big']
    rw [r_sIf, tt, rb_ok, if_neg (by decide), r_sSkip, rb_ok, sqK_nx, r]
    rfl
end
end Ov
namespace Ov
open PySem (Str PyData)
open MV
theorem kind2_cover : F__law_kind_v2 [.exc (Str.ofString "NoCover")] = .ok (.str (Str.ofString "cover")) (.exc (Str.ofString "NoCover")) := by rfl
section
variable {t w : List Str}
theorem refused20_val (hs : F_shown_with_rests_v2 [dT t, dT w] = .ex (Str.ofString "NoCover") (dT t)) : ∃ io, F__law_refused_v2 [dT t, dT w] = .ok (.bl true) io := by
  have hm : (Str.ofString "NoCover") ∈ [(Str.ofString "NoWord"), (Str.ofString "NoSign"), (Str.ofString "NoText"), (Str.ofString "NoCover")] := by simp
  have ge : gEq (.str (Str.ofString "cover")) (.str (Str.ofString "cover")) = some (.bl true) := by rfl
  simp only [F__law_refused_v2, r_runF, B__law_refused_v2]
  generalize dT t = T at *
  generalize dT w = W at *
  refine ⟨T, ?_⟩
  have h1 : B__law_refused_v2_l1 [some T, some W, some .non, none] = .ex (Str.ofString "NoCover") [some T, some W, some .non, none] := by simp [B__law_refused_v2_l1, hs]
  simp [h1, hm, kind2_cover, ge, gNotN, isNon, gIsN, -List.mem_cons]
theorem right20_row (ht : Tx t) (hw : Tx w) (t0 : t ≠ []) (w0 : w ≠ []) (hl : t.length ≤ 300) (hl2 : w.length ≤ 300) {x4 x5 : Option D} : ∃ y5, B__law_right_v35_l1 [some (dT t), some (dT w), some (.lst [dT t, dT w]), some (dueD (dueR t w)), x4, x5] = .ok .nx [some (dT t), some (dT w), some (.lst [dT t, dT w]), some (dueD (dueR t w)), x4, y5] := by
  have z2 : (2 : Nat) ≤ PySem.sizeLine := by decide
  have ne := gNe_self (lay_two' (Tx.gd ht) (Tx.gd hw))
  have sv := shown_val ht hw t0 w0 (by omega) (by omega)
  obtain ⟨d1, d2⟩ := due_same (t := t) (w := w) (List.length_pos_iff.mpr t0) (List.length_pos_iff.mpr w0)
  cases q : shC t w with
  | nil =>
    rw [d1.mp q]
    have sv : F_shown_with_rests_v2 [dT t, dT w] = .ex (Str.ofString "NoCover") (dT t) := by rw [sv]; unfold shV; rw [q]
    obtain ⟨io, rv⟩ := refused20_val sv
    refine ⟨x5, ?_⟩
    have dd : dueD [] = .non := rfl
    rw [dd]
    generalize dT t = T at *
    generalize dT w = W at *
    simp [B__law_right_v35_l1, gIsN, isNon, rv, hsz0, z2, ne]
  | cons c cs =>
    obtain ⟨d, ds, q2⟩ : ∃ d ds, dueR t w = d :: ds := by
      cases q2 : dueR t w with
      | nil => rw [d1.mpr q2] at q; cases q
      | cons d ds => exact ⟨d, ds, rfl⟩
    have em := d2 c cs d ds q q2
    have sv : F_shown_with_rests_v2 [dT t, dT w] = .ok (dT (mnT c cs)) (dT t) := by rw [sv]; unfold shV; rw [q]
    have tm : Tx (mnT c cs) := by
      have h1 := (mnT_spec cs c).1
      rw [← q] at h1
      exact tx_shC ht hw _ h1
    have ns := gNe_dT_self tm
    have dd : dueD (dueR t w) = dT (mnT c cs) := by rw [q2]; show dT (mnT d ds) = _; rw [em]
    rw [dd]
    refine ⟨some (.lst ((mnT c cs).map D.str ++ [.str (Str.ofString "a")])), ?_⟩
    have bd : (mnT c cs).length < LIM := by
      have h1 := (mnT_spec cs c).1
      rw [← q] at h1
      have := shC_bound (List.length_pos_iff.mpr w0) h1
      show _ < 100000
      omega
    have ls : ((mnT c cs).map D.str).length < LIM := by rw [List.length_map]; exact bd
    have fl : ∀ x ∈ (mnT c cs).map D.str, x.sc = true := strs_all _
    have inn : gIsN (dT (mnT c cs)) .non = some (.bl false) := by unfold dT; simp [gIsN, isNon]
    have isl : ∀ e : PEnv, e[5]? = some (some (dT (mnT c cs))) → eIsi "list" (eV 5) e = .ok (.bl true) e := fun e he => by unfold dT at *; simp [he]
    unfold dT at *
    generalize (mnT c cs).map D.str = M at *
    generalize t.map D.str = T at *
    generalize w.map D.str = W at *
    simp [B__law_right_v35_l1, inn, sv, ns, hsz0, z2, ne, ls]
    intro x hx h
    rw [fl x hx] at h; cases h
theorem right20_ok (ht : Tx t) (hw : Tx w) (t0 : t ≠ []) (w0 : w ≠ []) (hl : t.length ≤ 300) (hl2 : w.length ≤ 300) : ∃ io, F__law_right_v35 [dT t, dT w] = .ok (.bl true) io := by
  have z2 : (2 : Nat) ≤ PySem.sizeLine := by decide
  have hs : smallI 2 = true := by decide
  have dv := due20_val ht hw (List.length_pos_iff.mpr t0) (List.length_pos_iff.mpr w0) hl hl2
  obtain ⟨e', g1, y4, y5, rfl⟩ := for_inv (tg := tgN 4) (b := B__law_right_v35_l1) (ds := rngD 0 2) (e := [some (dT t), some (dT w), some (.lst [dT t, dT w]), some (dueD (dueR t w)), none, none])
    (fun _ e => ∃ y4 y5, e = [some (dT t), some (dT w), some (.lst [dT t, dT w]), some (dueD (dueR t w)), y4, y5])
    ⟨none, none, rfl⟩
    (fun i d e hd hi => by
      obtain ⟨y4, y5, rfl⟩ := hi
      obtain ⟨z5, r⟩ := right20_row ht hw t0 w0 hl hl2 (x4 := some d) (x5 := y5)
      exact ⟨_, _, .nx, rfl, r, .inl rfl, some d, z5, rfl⟩)
  refine ⟨dT t, ?_⟩
  have gl1 : gList1 [dT t] = some (dT t) := rfl
  have gl2 : gList1 [dT w] = some (dT w) := rfl
  simp only [F__law_right_v35, r_runF, B__law_right_v35]
  generalize dueD (dueR t w) = DD at *
  generalize dT t = T at *
  generalize dT w = W at *
  simp [gl1, gl2, z2, dv, hs, g1, -gList1_l]
end
theorem k20_one {t one : List Str} (ht : Tx t) (ho : Tx one) (t0 : t ≠ []) (o0 : one ≠ []) (hl : t.length ≤ 200) {x0 x1 x2 x4 x5 : Option D} : B_law_k20_l1 [x0, x1, x2, some (dT t), x4, x5, some (dT one)] = .ok .nx [x0, x1, x2, some (dT t), x4, x5, some (dT one)] := by
  have o1 : one.take 200 ≠ [] := fun z => by
    have h1 : (one.take 200).length = 0 := by rw [z]; rfl
    rw [List.length_take] at h1
    have := List.length_pos_iff.mpr o0
    omega
  have t4 : t.take 4 ≠ [] := fun z => by
    have h1 : (t.take 4).length = 0 := by rw [z]; rfl
    rw [List.length_take] at h1
    have := List.length_pos_iff.mpr t0
    omega
  have ol : (one.take 200).length ≤ 300 := by rw [List.length_take]; omega
  obtain ⟨i1, r1⟩ := right20_ok ht (ho.take 200) t0 o1 (by omega) ol
  obtain ⟨i2, r2⟩ := right20_ok (ht.take 4) (ho.take 200) t4 o1 (by rw [List.length_take]; omega) ol
  have c1 : cutA (one.map D.str) none (some (200 : Int)) = (one.take 200).map D.str := by rw [cutA_map]; exact congrArg _ (cutA_to one 200)
  have c2 : cutA (t.map D.str) none (some (4 : Int)) = (t.take 4).map D.str := by rw [cutA_map]; exact congrArg _ (cutA_to t 4)
  unfold dT at *
  generalize (one.take 200).map D.str = O2 at *
  generalize one.map D.str = O at *
  generalize (t.take 4).map D.str = T4 at *
  generalize t.map D.str = T at *
  simp [B_law_k20_l1, c1, c2, r1, r2]
theorem k20_cell {q : D} {c : Int} {xs : List (Option D)} (hx : xs.length = 5) : ∃ ys, ys.length = 5 ∧ B_law_k20_l2 (some q :: some (.int c) :: xs) = .ok .nx (some q :: some (.int c) :: ys) := by
  match xs, hx with
  | [x2, x3, x4, x5, x6], _ =>
  have z5 : (5 : Nat) ≤ PySem.sizeLine := by decide
  obtain ⟨h, io, a1, a2⟩ := deck_ok c
  obtain ⟨t, w, h1, b1, b2, b3, b4, b5, b6, b7, b8⟩ := dpair_ok a2 true
  have t0 := List.length_pos_iff.mpr b3
  have w0 := List.length_pos_iff.mpr b6
  obtain ⟨at', h2, d1, d2, d3⟩ := dk_nat (m := w.length + 1) b8 (by omega)
  have d1 : F__law_take_v3 [dI h1, .int ((w.length : Int) + 1)] = .ok (.int at') (dI h2) := d1
  have k1 : sSetW 2 (eCall F__law_deck (aCons (eV 1) aNil)) [some q, some (.int c), x2, x3, x4, x5, x6] = .ok .nx [some q, some (.int c), some (dI h), x3, x4, x5, x6] := by simp [a1, List.all_map]
  have k2 : sUnp (eCallW F__law_pair 2 (aCons (eC (.bl true)) aNil)) (tgT [3, 4]) [some q, some (.int c), some (dI h), x3, x4, x5, x6] = .ok .nx [some q, some (.int c), some (dI h1), some (dT t), some (dT w), x5, x6] := by simp [b1, List.all_map]
  have k3 : sSet 5 (eCallW F__law_take_v3 2 (aCons (e2 gAdd (eN gLen (aCons (eV 4) aNil)) (eC (.int 1))) aNil)) [some q, some (.int c), some (dI h1), some (dT t), some (dT w), x5, x6] = .ok .nx [some q, some (.int c), some (dI h2), some (dT t), some (dT w), some (.int (at' : Int)), x6] := by
    have gl : gLen [dT w] = some (.int (w.length : Int)) := by show some (D.int ((w.map D.str).length : Int)) = _; rw [List.length_map]
    generalize dT t = T at *
    generalize dT w = W at *
    simp [gl, d1, List.all_map]
  -- the five words
  obtain ⟨w2, hw2, tw2, nw2⟩ : ∃ w2 : List Str, w2 = (if w.drop at' = [] then w else w.drop at') ∧ Tx w2 ∧ w2 ≠ [] := by
    refine ⟨_, rfl, ?_, ?_⟩
    · split
      · exact b5
      · exact b5.drop _
    · split
      · exact b6
      · assumption
  have n5 : t.drop (t.length - 4) ≠ [] := fun z => by
    have h1 : (t.drop (t.length - 4)).length = 0 := by rw [z]; rfl
    rw [List.length_drop] at h1; omega
  have one := fun (o : List Str) (ho : Tx o) (o0 : o ≠ []) => k20_one b2 ho b3 o0 b4 (x0 := some q) (x1 := some (.int c)) (x2 := some (dI h2)) (x4 := some (dT w)) (x5 := some (.int (at' : Int)))
  have lp : sForL (tgN 6) B_law_k20_l1 [dT w, dT w2, dT (w ++ t.take 3), dT w.reverse, dT (t.drop (t.length - 4))] [some q, some (.int c), some (dI h2), some (dT t), some (dT w), some (.int (at' : Int)), x6] = .ok .nx [some q, some (.int c), some (dI h2), some (dT t), some (dT w), some (.int (at' : Int)), some (dT (t.drop (t.length - 4)))] := by
    rw [for_step rfl (one w b5 b6), for_step rfl (one w2 tw2 nw2), for_step rfl (one (w ++ t.take 3) (b5.append (b2.take 3)) (by simp [b6])), for_step rfl (one w.reverse (fun x hx => b5 x (List.mem_reverse.mp hx)) (by simp [b6])), for_step rfl (one _ (b2.drop _) n5)]
    rfl
  have il : iL (eN gLst (aCons (eV 4) (aCons (eOrT (eSl (eV 4) (oSome (eV 5)) oNone) (eV 4)) (aCons (e2 gAdd (eV 4) (eSl (eV 3) oNone (oSome (eC (.int 3))))) (aCons (e1 gRev (eV 4)) (aCons (eSl (eV 3) (oSome (e1 gNeg (eC (.int 4)))) oNone) aNil)))))) [some q, some (.int c), some (dI h2), some (dT t), some (dT w), some (.int (at' : Int)), x6] = .ok [dT w, dT w2, dT (w ++ t.take 3), dT w.reverse, dT (t.drop (t.length - 4))] [some q, some (.int c), some (dI h2), some (dT t), some (dT w), some (.int (at' : Int)), x6] := by
    have c1 : cutA (w.map D.str) (some (at' : Int)) none = (w.drop at').map D.str := by rw [cutA_map]; exact congrArg _ (cutA_from w at')
    have c2 : cutA (t.map D.str) none (some (3 : Int)) = (t.take 3).map D.str := by rw [cutA_map]; exact congrArg _ (cutA_to t 3)
    have c3 : cutA (t.map D.str) (some (-4 : Int)) none = (t.drop (t.length - 4)).map D.str := by rw [cutA_map]; exact congrArg _ (cutA_neg_from t 4 (by decide))
    have L1 : w.length + min 3 t.length ≤ LIM := by show _ ≤ 100000; omega
    have L2 : (w.map D.str).length + ((t.take 3).map D.str).length ≤ LIM := by rw [List.length_map, List.length_map, List.length_take]; exact L1
    have ea : (w ++ t.take 3).map D.str = w.map D.str ++ (t.take 3).map D.str := List.map_append
    have er : w.reverse.map D.str = (w.map D.str).reverse := List.map_reverse
    have eo : w2.map D.str = if ((w.drop at').map D.str).isEmpty = true then w.map D.str else (w.drop at').map D.str := by
      rw [hw2]
      by_cases z : w.drop at' = []
      · rw [if_pos z, z]; rfl
      · rw [if_neg z, if_neg]
        intro h
        rw [List.isEmpty_iff, List.map_eq_nil_iff] at h
        exact z h
    unfold dT
    rw [ea, er]
    generalize (w.drop at').map D.str = WD at *
    generalize w2.map D.str = W2 at *
    generalize (t.take 3).map D.str = T3 at *
    generalize (t.drop (t.length - 4)).map D.str = T4 at *
    generalize w.map D.str = W at *
    generalize t.map D.str = T at *
    cases WD with
    | nil =>
      have eo : W2 = W := eo
      subst eo
      simp [c1, c2, c3, L2, z5]
    | cons a r =>
      have eo : W2 = a :: r := eo
      subst eo
      simp [c1, c2, c3, L2, z5]
  refine ⟨[some (dI h2), some (dT t), some (dT w), some (.int (at' : Int)), some (dT (t.drop (t.length - 4)))], rfl, ?_⟩
  unfold B_law_k20_l2
  rw [r_sSeq, k1, rb_ok, sqK_nx, r_sSeq, k2, rb_ok, sqK_nx, r_sSeq, k3, rb_ok, sqK_nx, r_sFor, il, rb_ok, lp]
theorem true_law_k20 (ns : List Int) (hl : ns.length ≤ 63) : ∃ io, F_law_k20 [.lst (ns.map .int)] = .ok (.bl true) io := by
  obtain ⟨cs, hcs⟩ := cells_seq ns hl 4
  obtain ⟨y1, ys, _, h1⟩ := for_cells (q := .lst (ns.map .int)) (fun c xs hx => k20_cell (q := .lst (ns.map .int)) (c := c) hx) cs none (List.replicate 5 none) rfl
  refine ⟨.lst (ns.map .int), ?_⟩
  have hcs := hcs (none :: List.replicate 5 none)
  have hcs : (iL (e2 gAdd (eSlQ 0 oNone (oSome (eC (.int 4)))) (eN gLst (aCons (eCallQ F__law_cell_at 0 (aCons (eC (.int 0)) aNil)) aNil)))) (some (.lst (ns.map .int)) :: none :: List.replicate 5 none) = .ok (cs.map .int) (some (.lst (ns.map .int)) :: none :: List.replicate 5 none) := hcs
  simp only [F_law_k20, r_runF, B_law_k20, r_envOf, r_sSeq, r_sFor]
  have e0 : [D.lst (ns.map .int)].map some ++ List.replicate (7 - [D.lst (ns.map .int)].length) none = some (.lst (ns.map .int)) :: none :: List.replicate 5 none := rfl
  rw [e0, hcs, rb_ok, h1]
  simp
end Ov
namespace Lk20
open PySem PySem.Spec PyProof.Rows L2 MV Ov
def topS (i : Nat) : Stmt := PySem.Challenge.pw_overlaid_k20_texts_that_show_it.main.body.getD i (.Pass ⟨0, 0, 0, 0⟩)
abbrev s_need_word : Stmt := topS 13
abbrev N_need_word : List Str := [Str.ofString "word"]
abbrev ps_need_word : List Str := [Str.ofString "word"]
theorem sc_need_word : FnScope N_need_word ps_need_word (defScope s_need_word) := ⟨rfl, rfl, rfl, by decide +kernel, rfl, by decide +kernel, by decide +kernel⟩
def cf_need_word (K : PySem.W.Frag) (mg : Str → Option Value) : Cf := ⟨K, fun i => [Kd.S].getD i .S, cvK K⟩
abbrev s_need_signs : Stmt := topS 14
abbrev N_need_signs : List Str := [Str.ofString "signs", Str.ofString "sign"]
abbrev ps_need_signs : List Str := [Str.ofString "signs"]
theorem sc_need_signs : FnScope N_need_signs ps_need_signs (defScope s_need_signs) := ⟨rfl, rfl, rfl, by decide +kernel, rfl, by decide +kernel, by decide +kernel⟩
def cf_need_signs (K : PySem.W.Frag) (mg : Str → Option Value) : Cf := ⟨K, fun i => [Kd.S, Kd.S].getD i .S, cvK K⟩
abbrev s_need_text : Stmt := topS 15
abbrev N_need_text : List Str := [Str.ofString "text"]
abbrev ps_need_text : List Str := [Str.ofString "text"]
theorem sc_need_text : FnScope N_need_text ps_need_text (defScope s_need_text) := ⟨rfl, rfl, rfl, by decide +kernel, rfl, by decide +kernel, by decide +kernel⟩
def cf_need_text (K : PySem.W.Frag) (mg : Str → Option Value) : Cf := ⟨K, fun i => [Kd.S].getD i .S, cvK K⟩
abbrev s_laid_at : Stmt := topS 16
abbrev N_laid_at : List Str := [Str.ofString "text", Str.ofString "word", Str.ofString "size", Str.ofString "place"]
abbrev ps_laid_at : List Str := [Str.ofString "text", Str.ofString "word"]
theorem sc_laid_at : FnScope N_laid_at ps_laid_at (defScope s_laid_at) := ⟨rfl, rfl, rfl, by decide +kernel, rfl, by decide +kernel, by decide +kernel⟩
def cf_laid_at (K : PySem.W.Frag) (mg : Str → Option Value) : Cf := ⟨K, fun i => [Kd.S, Kd.S, Kd.S, Kd.S].getD i .S, cvK K⟩
abbrev s_hung_ahead : Stmt := topS 20
abbrev N_hung_ahead : List Str := [Str.ofString "text", Str.ofString "word", Str.ofString "length"]
abbrev ps_hung_ahead : List Str := [Str.ofString "text", Str.ofString "word"]
theorem sc_hung_ahead : FnScope N_hung_ahead ps_hung_ahead (defScope s_hung_ahead) := ⟨rfl, rfl, rfl, by decide +kernel, rfl, by decide +kernel, by decide +kernel⟩
def cf_hung_ahead (K : PySem.W.Frag) (mg : Str → Option Value) : Cf := ⟨K, fun i => [Kd.S, Kd.S, Kd.S].getD i .S, cvK K⟩
abbrev s_hung_behind : Stmt := topS 21
abbrev N_hung_behind : List Str := [Str.ofString "text", Str.ofString "word", Str.ofString "length"]
abbrev ps_hung_behind : List Str := [Str.ofString "text", Str.ofString "word"]
theorem sc_hung_behind : FnScope N_hung_behind ps_hung_behind (defScope s_hung_behind) := ⟨rfl, rfl, rfl, by decide +kernel, rfl, by decide +kernel, by decide +kernel⟩
def cf_hung_behind (K : PySem.W.Frag) (mg : Str → Option Value) : Cf := ⟨K, fun i => [Kd.S, Kd.S, Kd.S].getD i .S, cvK K⟩
abbrev s__law_cell_at : Stmt := topS 26
abbrev N__law_cell_at : List Str := [Str.ofString "script", Str.ofString "k"]
abbrev ps__law_cell_at : List Str := [Str.ofString "script", Str.ofString "k"]
theorem sc__law_cell_at : FnScope N__law_cell_at ps__law_cell_at (defScope s__law_cell_at) := ⟨rfl, rfl, rfl, by decide +kernel, rfl, by decide +kernel, by decide +kernel⟩
def cf__law_cell_at (K : PySem.W.Frag) (mg : Str → Option Value) : Cf := ⟨K, fun i => [Kd.Q, Kd.S].getD i .S, cvK K⟩
abbrev s__law_deck : Stmt := topS 27
abbrev N__law_deck : List Str := [Str.ofString "cell"]
abbrev ps__law_deck : List Str := [Str.ofString "cell"]
theorem sc__law_deck : FnScope N__law_deck ps__law_deck (defScope s__law_deck) := ⟨rfl, rfl, rfl, by decide +kernel, rfl, by decide +kernel, by decide +kernel⟩
def cf__law_deck (K : PySem.W.Frag) (mg : Str → Option Value) : Cf := ⟨K, fun i => [Kd.S].getD i .S, cvK K⟩
abbrev s__law_take : Stmt := topS 28
abbrev N__law_take : List Str := [Str.ofString "deck", Str.ofString "many", Str.ofString "stir", Str.ofString "digit"]
abbrev ps__law_take : List Str := [Str.ofString "deck", Str.ofString "many"]
theorem sc__law_take : FnScope N__law_take ps__law_take (defScope s__law_take) := ⟨rfl, rfl, rfl, by decide +kernel, rfl, by decide +kernel, by decide +kernel⟩
def cf__law_take (K : PySem.W.Frag) (mg : Str → Option Value) : Cf := ⟨K, fun i => [Kd.W, Kd.S, Kd.S, Kd.S].getD i .S, cvK K⟩
abbrev s__law_is_covered : Stmt := topS 35
abbrev N__law_is_covered : List Str := [Str.ofString "text", Str.ofString "word", Str.ofString "behind", Str.ofString "place"]
abbrev ps__law_is_covered : List Str := [Str.ofString "text", Str.ofString "word"]
theorem sc__law_is_covered : FnScope N__law_is_covered ps__law_is_covered (defScope s__law_is_covered) := ⟨rfl, rfl, rfl, by decide +kernel, rfl, by decide +kernel, by decide +kernel⟩
def cf__law_is_covered (K : PySem.W.Frag) (mg : Str → Option Value) : Cf := ⟨K, fun i => [Kd.S, Kd.S, Kd.S, Kd.S].getD i .S, cvK K⟩
abbrev s__law_kind : Stmt := topS 38
abbrev N__law_kind : List Str := [Str.ofString "caught", Str.ofString "kinds", Str.ofString "odd"]
abbrev ps__law_kind : List Str := [Str.ofString "caught"]
theorem sc__law_kind : FnScope N__law_kind ps__law_kind (defScope s__law_kind) := ⟨rfl, rfl, rfl, by decide +kernel, rfl, by decide +kernel, by decide +kernel⟩
def cf__law_kind (K : PySem.W.Frag) (mg : Str → Option Value) : Cf := ⟨K, fun i => [Kd.S, Kd.S, Kd.S].getD i .S, cvK K⟩
abbrev s__law_ends : Stmt := topS 39
abbrev N__law_ends : List Str := [Str.ofString "text", Str.ofString "word", Str.ofString "size", Str.ofString "aheads", Str.ofString "behinds", Str.ofString "one", Str.ofString "over"]
abbrev ps__law_ends : List Str := [Str.ofString "text", Str.ofString "word"]
theorem sc__law_ends : FnScope N__law_ends ps__law_ends (defScope s__law_ends) := ⟨rfl, rfl, rfl, by decide +kernel, rfl, by decide +kernel, by decide +kernel⟩
def cf__law_ends (K : PySem.W.Frag) (mg : Str → Option Value) : Cf := ⟨K, fun i => [Kd.S, Kd.S, Kd.S, Kd.N, Kd.N, Kd.S, Kd.S].getD i .S, cvK K⟩
abbrev s_need_both : Stmt := topS 18
abbrev N_need_both : List Str := [Str.ofString "text", Str.ofString "word"]
abbrev ps_need_both : List Str := [Str.ofString "text", Str.ofString "word"]
theorem sc_need_both : FnScope N_need_both ps_need_both (defScope s_need_both) := ⟨rfl, rfl, rfl, by decide +kernel, rfl, by decide +kernel, by decide +kernel⟩
def cf_need_both (K : PySem.W.Frag) (mg : Str → Option Value) : Cf := ⟨K, fun i => [Kd.S, Kd.S].getD i .S, cvK K⟩
abbrev s_covers_amid : Stmt := topS 22
abbrev N_covers_amid : List Str := [Str.ofString "text", Str.ofString "word", Str.ofString "begin", Str.ofString "end", Str.ofString "behind", Str.ofString "place"]
abbrev ps_covers_amid : List Str := [Str.ofString "text", Str.ofString "word", Str.ofString "begin", Str.ofString "end"]
theorem sc_covers_amid : FnScope N_covers_amid ps_covers_amid (defScope s_covers_amid) := ⟨rfl, rfl, rfl, by decide +kernel, rfl, by decide +kernel, by decide +kernel⟩
def cf_covers_amid (K : PySem.W.Frag) (mg : Str → Option Value) : Cf := ⟨K, fun i => [Kd.S, Kd.S, Kd.S, Kd.S, Kd.S, Kd.S].getD i .S, cvK K⟩
abbrev s_is_within : Stmt := topS 23
abbrev N_is_within : List Str := [Str.ofString "text", Str.ofString "word"]
abbrev ps_is_within : List Str := [Str.ofString "text", Str.ofString "word"]
theorem sc_is_within : FnScope N_is_within ps_is_within (defScope s_is_within) := ⟨rfl, rfl, rfl, by decide +kernel, rfl, by decide +kernel, by decide +kernel⟩
def cf_is_within (K : PySem.W.Frag) (mg : Str → Option Value) : Cf := ⟨K, fun i => [Kd.S, Kd.S].getD i .S, cvK K⟩
abbrev s__law_letters : Stmt := topS 29
abbrev N__law_letters : List Str := [Str.ofString "deck", Str.ofString "every", Str.ofString "first", Str.ofString "step", Str.ofString "many", Str.ofString "k"]
abbrev ps__law_letters : List Str := [Str.ofString "deck"]
theorem sc__law_letters : FnScope N__law_letters ps__law_letters (defScope s__law_letters) := ⟨rfl, rfl, rfl, by decide +kernel, rfl, by decide +kernel, by decide +kernel⟩
def cf__law_letters (K : PySem.W.Frag) (mg : Str → Option Value) : Cf := ⟨K, fun i => [Kd.W, Kd.S, Kd.S, Kd.S, Kd.S, Kd.S].getD i .S, cvK K⟩
abbrev s__law_signs : Stmt := topS 30
abbrev N__law_signs : List Str := [Str.ofString "deck", Str.ofString "letters", Str.ofString "many", Str.ofString "k"]
abbrev ps__law_signs : List Str := [Str.ofString "deck", Str.ofString "letters", Str.ofString "many"]
theorem sc__law_signs : FnScope N__law_signs ps__law_signs (defScope s__law_signs) := ⟨rfl, rfl, rfl, by decide +kernel, rfl, by decide +kernel, by decide +kernel⟩
def cf__law_signs (K : PySem.W.Frag) (mg : Str → Option Value) : Cf := ⟨K, fun i => [Kd.W, Kd.S, Kd.S, Kd.S].getD i .S, cvK K⟩
abbrev s__law_due : Stmt := topS 40
abbrev N__law_due : List Str := [Str.ofString "text", Str.ofString "word", Str.ofString "every", Str.ofString "aheads", Str.ofString "behinds", Str.ofString "found", Str.ofString "one", Str.ofString "places", Str.ofString "other", Str.ofString "longer", Str.ofString "place"]
abbrev ps__law_due : List Str := [Str.ofString "text", Str.ofString "word"]
theorem sc__law_due : FnScope N__law_due ps__law_due (defScope s__law_due) := ⟨rfl, rfl, rfl, by decide +kernel, rfl, by decide +kernel, by decide +kernel⟩
def cf__law_due (K : PySem.W.Frag) (mg : Str → Option Value) : Cf := ⟨K, fun i => [Kd.N, Kd.N, Kd.S, Kd.S, Kd.S, Kd.M, Kd.S, Kd.S, Kd.S, Kd.N, Kd.S].getD i .S, cvK K⟩
abbrev s_shown_with_rests : Stmt := topS 24
abbrev N_shown_with_rests : List Str := [Str.ofString "text", Str.ofString "word", Str.ofString "some", Str.ofString "ahead", Str.ofString "behind", Str.ofString "first", Str.ofString "last", Str.ofString "begin", Str.ofString "one"]
abbrev ps_shown_with_rests : List Str := [Str.ofString "text", Str.ofString "word"]
theorem sc_shown_with_rests : FnScope N_shown_with_rests ps_shown_with_rests (defScope s_shown_with_rests) := ⟨rfl, rfl, rfl, by decide +kernel, rfl, by decide +kernel, by decide +kernel⟩
def cf_shown_with_rests (K : PySem.W.Frag) (mg : Str → Option Value) : Cf := ⟨K, fun i => [Kd.S, Kd.S, Kd.M, Kd.S, Kd.S, Kd.S, Kd.S, Kd.S, Kd.N].getD i .S, cvK K⟩
abbrev s__law_word : Stmt := topS 31
abbrev N__law_word : List Str := [Str.ofString "deck", Str.ofString "letters", Str.ofString "most", Str.ofString "way", Str.ofString "one"]
abbrev ps__law_word : List Str := [Str.ofString "deck", Str.ofString "letters", Str.ofString "most"]
theorem sc__law_word : FnScope N__law_word ps__law_word (defScope s__law_word) := ⟨rfl, rfl, rfl, by decide +kernel, rfl, by decide +kernel, by decide +kernel⟩
def cf__law_word (K : PySem.W.Frag) (mg : Str → Option Value) : Cf := ⟨K, fun i => [Kd.W, Kd.S, Kd.S, Kd.S, Kd.N].getD i .S, cvK K⟩
abbrev s__law_overlaid : Stmt := topS 32
abbrev N__law_overlaid : List Str := [Str.ofString "deck", Str.ofString "letters", Str.ofString "word", Str.ofString "many", Str.ofString "found", Str.ofString "k", Str.ofString "some", Str.ofString "over", Str.ofString "j"]
abbrev ps__law_overlaid : List Str := [Str.ofString "deck", Str.ofString "letters", Str.ofString "word", Str.ofString "many"]
theorem sc__law_overlaid : FnScope N__law_overlaid ps__law_overlaid (defScope s__law_overlaid) := ⟨rfl, rfl, rfl, by decide +kernel, rfl, by decide +kernel, by decide +kernel⟩
def cf__law_overlaid (K : PySem.W.Frag) (mg : Str → Option Value) : Cf := ⟨K, fun i => [Kd.W, Kd.S, Kd.S, Kd.S, Kd.N, Kd.S, Kd.S, Kd.S, Kd.S].getD i .S, cvK K⟩
abbrev s__law_bent : Stmt := topS 33
abbrev N__law_bent : List Str := [Str.ofString "deck", Str.ofString "letters", Str.ofString "text", Str.ofString "at", Str.ofString "way"]
abbrev ps__law_bent : List Str := [Str.ofString "deck", Str.ofString "letters", Str.ofString "text"]
theorem sc__law_bent : FnScope N__law_bent ps__law_bent (defScope s__law_bent) := ⟨rfl, rfl, rfl, by decide +kernel, rfl, by decide +kernel, by decide +kernel⟩
def cf__law_bent (K : PySem.W.Frag) (mg : Str → Option Value) : Cf := ⟨K, fun i => [Kd.W, Kd.S, Kd.S, Kd.S, Kd.S].getD i .S, cvK K⟩
abbrev s__law_pair : Stmt := topS 34
abbrev N__law_pair : List Str := [Str.ofString "deck", Str.ofString "long", Str.ofString "letters", Str.ofString "word", Str.ofString "text", Str.ofString "begin", Str.ofString "end"]
abbrev ps__law_pair : List Str := [Str.ofString "deck", Str.ofString "long"]
theorem sc__law_pair : FnScope N__law_pair ps__law_pair (defScope s__law_pair) := ⟨rfl, rfl, rfl, by decide +kernel, rfl, by decide +kernel, by decide +kernel⟩
def cf__law_pair (K : PySem.W.Frag) (mg : Str → Option Value) : Cf := ⟨K, fun i => [Kd.W, Kd.S, Kd.N, Kd.N, Kd.N, Kd.S, Kd.S].getD i .S, cvK K⟩
abbrev s__law_refused : Stmt := topS 41
abbrev N__law_refused : List Str := [Str.ofString "text", Str.ofString "word", Str.ofString "caught", Str.ofString "e"]
abbrev ps__law_refused : List Str := [Str.ofString "text", Str.ofString "word"]
theorem sc__law_refused : FnScope N__law_refused ps__law_refused (defScope s__law_refused) := ⟨rfl, rfl, rfl, by decide +kernel, rfl, by decide +kernel, by decide +kernel⟩
def cf__law_refused (K : PySem.W.Frag) (mg : Str → Option Value) : Cf := ⟨K, fun i => [Kd.S, Kd.S, Kd.S, Kd.S].getD i .S, cvK K⟩
abbrev s__law_right : Stmt := topS 42
abbrev N__law_right : List Str := [Str.ofString "text", Str.ofString "word", Str.ofString "handed", Str.ofString "due", Str.ofString "again", Str.ofString "found"]
abbrev ps__law_right : List Str := [Str.ofString "text", Str.ofString "word"]
theorem sc__law_right : FnScope N__law_right ps__law_right (defScope s__law_right) := ⟨rfl, rfl, rfl, by decide +kernel, rfl, by decide +kernel, by decide +kernel⟩
def cf__law_right (K : PySem.W.Frag) (mg : Str → Option Value) : Cf := ⟨K, fun i => [Kd.S, Kd.S, Kd.S, Kd.S, Kd.S, Kd.M].getD i .S, cvK K⟩
abbrev s_law : Stmt := topS 43
abbrev N_law : List Str := [Str.ofString "script", Str.ofString "cell", Str.ofString "deck", Str.ofString "text", Str.ofString "word", Str.ofString "at", Str.ofString "one"]
abbrev ps_law : List Str := [Str.ofString "script"]
theorem sc_law : FnScope N_law ps_law (defScope s_law) := ⟨rfl, rfl, rfl, by decide +kernel, rfl, by decide +kernel, by decide +kernel⟩
def cf_law (K : PySem.W.Frag) (mg : Str → Option Value) : Cf := ⟨K, fun i => [Kd.Q, Kd.S, Kd.W, Kd.S, Kd.S, Kd.S, Kd.S].getD i .S, cvK K⟩
structure Tp (K : PySem.W.Frag) (mg : Str → Option Value) where
  f_need_word : Addr
  d_need_word : FuncData
  F_need_word : Fun K (Str.ofString "need_word") (Str.ofString "need_word") s_need_word f_need_word d_need_word
  g_need_word : mg (Str.ofString "need_word") = some (.ref f_need_word)
  b_need_word : Binds K d_need_word ps_need_word []
  f_need_signs : Addr
  d_need_signs : FuncData
  F_need_signs : Fun K (Str.ofString "need_signs") (Str.ofString "need_signs") s_need_signs f_need_signs d_need_signs
  g_need_signs : mg (Str.ofString "need_signs") = some (.ref f_need_signs)
  b_need_signs : Binds K d_need_signs ps_need_signs []
  f_need_text : Addr
  d_need_text : FuncData
  F_need_text : Fun K (Str.ofString "need_text") (Str.ofString "need_text") s_need_text f_need_text d_need_text
  g_need_text : mg (Str.ofString "need_text") = some (.ref f_need_text)
  b_need_text : Binds K d_need_text ps_need_text []
  f_laid_at : Addr
  d_laid_at : FuncData
  F_laid_at : Fun K (Str.ofString "laid_at") (Str.ofString "laid_at") s_laid_at f_laid_at d_laid_at
  g_laid_at : mg (Str.ofString "laid_at") = some (.ref f_laid_at)
  b_laid_at : Binds K d_laid_at ps_laid_at []
  f_hung_ahead : Addr
  d_hung_ahead : FuncData
  F_hung_ahead : Fun K (Str.ofString "hung_ahead") (Str.ofString "hung_ahead") s_hung_ahead f_hung_ahead d_hung_ahead
  g_hung_ahead : mg (Str.ofString "hung_ahead") = some (.ref f_hung_ahead)
  b_hung_ahead : Binds K d_hung_ahead ps_hung_ahead []
  f_hung_behind : Addr
  d_hung_behind : FuncData
  F_hung_behind : Fun K (Str.ofString "hung_behind") (Str.ofString "hung_behind") s_hung_behind f_hung_behind d_hung_behind
  g_hung_behind : mg (Str.ofString "hung_behind") = some (.ref f_hung_behind)
  b_hung_behind : Binds K d_hung_behind ps_hung_behind []
  f__law_cell_at : Addr
  d__law_cell_at : FuncData
  F__law_cell_at : Fun K (Str.ofString "_law_cell_at") (Str.ofString "_law_cell_at") s__law_cell_at f__law_cell_at d__law_cell_at
  g__law_cell_at : mg (Str.ofString "_law_cell_at") = some (.ref f__law_cell_at)
  b__law_cell_at : Binds K d__law_cell_at ps__law_cell_at []
  f__law_deck : Addr
  d__law_deck : FuncData
  F__law_deck : Fun K (Str.ofString "_law_deck") (Str.ofString "_law_deck") s__law_deck f__law_deck d__law_deck
  g__law_deck : mg (Str.ofString "_law_deck") = some (.ref f__law_deck)
  b__law_deck : Binds K d__law_deck ps__law_deck []
  f__law_take : Addr
  d__law_take : FuncData
  F__law_take : Fun K (Str.ofString "_law_take") (Str.ofString "_law_take") s__law_take f__law_take d__law_take
  g__law_take : mg (Str.ofString "_law_take") = some (.ref f__law_take)
  b__law_take : Binds K d__law_take ps__law_take []
  f__law_is_covered : Addr
  d__law_is_covered : FuncData
  F__law_is_covered : Fun K (Str.ofString "_law_is_covered") (Str.ofString "_law_is_covered") s__law_is_covered f__law_is_covered d__law_is_covered
  g__law_is_covered : mg (Str.ofString "_law_is_covered") = some (.ref f__law_is_covered)
  b__law_is_covered : Binds K d__law_is_covered ps__law_is_covered []
  f__law_kind : Addr
  d__law_kind : FuncData
  F__law_kind : Fun K (Str.ofString "_law_kind") (Str.ofString "_law_kind") s__law_kind f__law_kind d__law_kind
  g__law_kind : mg (Str.ofString "_law_kind") = some (.ref f__law_kind)
  b__law_kind : Binds K d__law_kind ps__law_kind []
  f__law_ends : Addr
  d__law_ends : FuncData
  F__law_ends : Fun K (Str.ofString "_law_ends") (Str.ofString "_law_ends") s__law_ends f__law_ends d__law_ends
  g__law_ends : mg (Str.ofString "_law_ends") = some (.ref f__law_ends)
  b__law_ends : Binds K d__law_ends ps__law_ends []
  f_need_both : Addr
  d_need_both : FuncData
  F_need_both : Fun K (Str.ofString "need_both") (Str.ofString "need_both") s_need_both f_need_both d_need_both
  g_need_both : mg (Str.ofString "need_both") = some (.ref f_need_both)
  b_need_both : Binds K d_need_both ps_need_both []
  f_covers_amid : Addr
  d_covers_amid : FuncData
  F_covers_amid : Fun K (Str.ofString "covers_amid") (Str.ofString "covers_amid") s_covers_amid f_covers_amid d_covers_amid
  g_covers_amid : mg (Str.ofString "covers_amid") = some (.ref f_covers_amid)
  b_covers_amid : Binds K d_covers_amid ps_covers_amid []
  f_is_within : Addr
  d_is_within : FuncData
  F_is_within : Fun K (Str.ofString "is_within") (Str.ofString "is_within") s_is_within f_is_within d_is_within
  g_is_within : mg (Str.ofString "is_within") = some (.ref f_is_within)
  b_is_within : Binds K d_is_within ps_is_within []
  f__law_letters : Addr
  d__law_letters : FuncData
  F__law_letters : Fun K (Str.ofString "_law_letters") (Str.ofString "_law_letters") s__law_letters f__law_letters d__law_letters
  g__law_letters : mg (Str.ofString "_law_letters") = some (.ref f__law_letters)
  b__law_letters : Binds K d__law_letters ps__law_letters []
  f__law_signs : Addr
  d__law_signs : FuncData
  F__law_signs : Fun K (Str.ofString "_law_signs") (Str.ofString "_law_signs") s__law_signs f__law_signs d__law_signs
  g__law_signs : mg (Str.ofString "_law_signs") = some (.ref f__law_signs)
  b__law_signs : Binds K d__law_signs ps__law_signs []
  f__law_due : Addr
  d__law_due : FuncData
  F__law_due : Fun K (Str.ofString "_law_due") (Str.ofString "_law_due") s__law_due f__law_due d__law_due
  g__law_due : mg (Str.ofString "_law_due") = some (.ref f__law_due)
  b__law_due : Binds K d__law_due ps__law_due []
  f_shown_with_rests : Addr
  d_shown_with_rests : FuncData
  F_shown_with_rests : Fun K (Str.ofString "shown_with_rests") (Str.ofString "shown_with_rests") s_shown_with_rests f_shown_with_rests d_shown_with_rests
  g_shown_with_rests : mg (Str.ofString "shown_with_rests") = some (.ref f_shown_with_rests)
  b_shown_with_rests : Binds K d_shown_with_rests ps_shown_with_rests []
  f__law_word : Addr
  d__law_word : FuncData
  F__law_word : Fun K (Str.ofString "_law_word") (Str.ofString "_law_word") s__law_word f__law_word d__law_word
  g__law_word : mg (Str.ofString "_law_word") = some (.ref f__law_word)
  b__law_word : Binds K d__law_word ps__law_word []
  f__law_overlaid : Addr
  d__law_overlaid : FuncData
  F__law_overlaid : Fun K (Str.ofString "_law_overlaid") (Str.ofString "_law_overlaid") s__law_overlaid f__law_overlaid d__law_overlaid
  g__law_overlaid : mg (Str.ofString "_law_overlaid") = some (.ref f__law_overlaid)
  b__law_overlaid : Binds K d__law_overlaid ps__law_overlaid []
  f__law_bent : Addr
  d__law_bent : FuncData
  F__law_bent : Fun K (Str.ofString "_law_bent") (Str.ofString "_law_bent") s__law_bent f__law_bent d__law_bent
  g__law_bent : mg (Str.ofString "_law_bent") = some (.ref f__law_bent)
  b__law_bent : Binds K d__law_bent ps__law_bent []
  f__law_pair : Addr
  d__law_pair : FuncData
  F__law_pair : Fun K (Str.ofString "_law_pair") (Str.ofString "_law_pair") s__law_pair f__law_pair d__law_pair
  g__law_pair : mg (Str.ofString "_law_pair") = some (.ref f__law_pair)
  b__law_pair : Binds K d__law_pair ps__law_pair []
  f__law_refused : Addr
  d__law_refused : FuncData
  F__law_refused : Fun K (Str.ofString "_law_refused") (Str.ofString "_law_refused") s__law_refused f__law_refused d__law_refused
  g__law_refused : mg (Str.ofString "_law_refused") = some (.ref f__law_refused)
  b__law_refused : Binds K d__law_refused ps__law_refused []
  f__law_right : Addr
  d__law_right : FuncData
  F__law_right : Fun K (Str.ofString "_law_right") (Str.ofString "_law_right") s__law_right f__law_right d__law_right
  g__law_right : mg (Str.ofString "_law_right") = some (.ref f__law_right)
  b__law_right : Binds K d__law_right ps__law_right []
  f_law : Addr
  d_law : FuncData
  F_law : Fun K (Str.ofString "law") (Str.ofString "law") s_law f_law d_law
  g_law : mg (Str.ofString "law") = some (.ref f_law)
  b_law : Binds K d_law ps_law []
  t_LETTERS : Tok
  g_LETTERS : mg (Str.ofString "LETTERS") = some (.str (Str.ofString "abcdefghijklmnopqrstuvwxyz") t_LETTERS)
  m_ValueError : mg (Str.ofString "ValueError") = none
  m_isinstance : mg (Str.ofString "isinstance") = none
  m_len : mg (Str.ofString "len") = none
  m_list : mg (Str.ofString "list") = none
  m_max : mg (Str.ofString "max") = none
  m_min : mg (Str.ofString "min") = none
  m_range : mg (Str.ofString "range") = none
  m_set : mg (Str.ofString "set") = none
  m_sorted : mg (Str.ofString "sorted") = none
  C_CoverError : Addr
  X_CoverError : XCls K mg (Str.ofString "CoverError") C_CoverError
  C_NoWord : Addr
  X_NoWord : XCls K mg (Str.ofString "NoWord") C_NoWord
  C_NoSign : Addr
  X_NoSign : XCls K mg (Str.ofString "NoSign") C_NoSign
  C_NoText : Addr
  X_NoText : XCls K mg (Str.ofString "NoText") C_NoText
  C_NoCover : Addr
  X_NoCover : XCls K mg (Str.ofString "NoCover") C_NoCover
  C_NoNumber : Addr
  X_NoNumber : XCls K mg (Str.ofString "NoNumber") C_NoNumber
  C_NoChain : Addr
  X_NoChain : XCls K mg (Str.ofString "NoChain") C_NoChain
  C_TooMany : Addr
  X_TooMany : XCls K mg (Str.ofString "TooMany") C_TooMany
  C_NoForm : Addr
  X_NoForm : XCls K mg (Str.ofString "NoForm") C_NoForm
  C_NoneYet : Addr
  X_NoneYet : XCls K mg (Str.ofString "NoneYet") C_NoneYet
  E_NoWord : ExcC K C_NoWord
  V_NoWord : PySem.W.subIn K (.ref C_NoWord) (.type "ValueError") = some true
  S_NoWord_CoverError : PySem.W.subIn K (.ref C_NoWord) (.ref C_CoverError) = some true
  S_NoWord_NoWord : PySem.W.subIn K (.ref C_NoWord) (.ref C_NoWord) = some true
  S_NoWord_NoSign : PySem.W.subIn K (.ref C_NoWord) (.ref C_NoSign) = some false
  S_NoWord_NoText : PySem.W.subIn K (.ref C_NoWord) (.ref C_NoText) = some false
  S_NoWord_NoCover : PySem.W.subIn K (.ref C_NoWord) (.ref C_NoCover) = some false
  S_NoWord_NoNumber : PySem.W.subIn K (.ref C_NoWord) (.ref C_NoNumber) = some false
  S_NoWord_NoChain : PySem.W.subIn K (.ref C_NoWord) (.ref C_NoChain) = some false
  S_NoWord_TooMany : PySem.W.subIn K (.ref C_NoWord) (.ref C_TooMany) = some false
  S_NoWord_NoForm : PySem.W.subIn K (.ref C_NoWord) (.ref C_NoForm) = some false
  S_NoWord_NoneYet : PySem.W.subIn K (.ref C_NoWord) (.ref C_NoneYet) = some false
  E_NoSign : ExcC K C_NoSign
  V_NoSign : PySem.W.subIn K (.ref C_NoSign) (.type "ValueError") = some true
  S_NoSign_CoverError : PySem.W.subIn K (.ref C_NoSign) (.ref C_CoverError) = some true
  S_NoSign_NoWord : PySem.W.subIn K (.ref C_NoSign) (.ref C_NoWord) = some false
  S_NoSign_NoSign : PySem.W.subIn K (.ref C_NoSign) (.ref C_NoSign) = some true
  S_NoSign_NoText : PySem.W.subIn K (.ref C_NoSign) (.ref C_NoText) = some false
  S_NoSign_NoCover : PySem.W.subIn K (.ref C_NoSign) (.ref C_NoCover) = some false
  S_NoSign_NoNumber : PySem.W.subIn K (.ref C_NoSign) (.ref C_NoNumber) = some false
  S_NoSign_NoChain : PySem.W.subIn K (.ref C_NoSign) (.ref C_NoChain) = some false
  S_NoSign_TooMany : PySem.W.subIn K (.ref C_NoSign) (.ref C_TooMany) = some false
  S_NoSign_NoForm : PySem.W.subIn K (.ref C_NoSign) (.ref C_NoForm) = some false
  S_NoSign_NoneYet : PySem.W.subIn K (.ref C_NoSign) (.ref C_NoneYet) = some false
  E_NoText : ExcC K C_NoText
  V_NoText : PySem.W.subIn K (.ref C_NoText) (.type "ValueError") = some true
  S_NoText_CoverError : PySem.W.subIn K (.ref C_NoText) (.ref C_CoverError) = some true
  S_NoText_NoWord : PySem.W.subIn K (.ref C_NoText) (.ref C_NoWord) = some false
  S_NoText_NoSign : PySem.W.subIn K (.ref C_NoText) (.ref C_NoSign) = some false
  S_NoText_NoText : PySem.W.subIn K (.ref C_NoText) (.ref C_NoText) = some true
  S_NoText_NoCover : PySem.W.subIn K (.ref C_NoText) (.ref C_NoCover) = some false
  S_NoText_NoNumber : PySem.W.subIn K (.ref C_NoText) (.ref C_NoNumber) = some false
  S_NoText_NoChain : PySem.W.subIn K (.ref C_NoText) (.ref C_NoChain) = some false
  S_NoText_TooMany : PySem.W.subIn K (.ref C_NoText) (.ref C_TooMany) = some false
  S_NoText_NoForm : PySem.W.subIn K (.ref C_NoText) (.ref C_NoForm) = some false
  S_NoText_NoneYet : PySem.W.subIn K (.ref C_NoText) (.ref C_NoneYet) = some false
  E_NoCover : ExcC K C_NoCover
  V_NoCover : PySem.W.subIn K (.ref C_NoCover) (.type "ValueError") = some true
  S_NoCover_CoverError : PySem.W.subIn K (.ref C_NoCover) (.ref C_CoverError) = some true
  S_NoCover_NoWord : PySem.W.subIn K (.ref C_NoCover) (.ref C_NoWord) = some false
  S_NoCover_NoSign : PySem.W.subIn K (.ref C_NoCover) (.ref C_NoSign) = some false
  S_NoCover_NoText : PySem.W.subIn K (.ref C_NoCover) (.ref C_NoText) = some false
  S_NoCover_NoCover : PySem.W.subIn K (.ref C_NoCover) (.ref C_NoCover) = some true
  S_NoCover_NoNumber : PySem.W.subIn K (.ref C_NoCover) (.ref C_NoNumber) = some false
  S_NoCover_NoChain : PySem.W.subIn K (.ref C_NoCover) (.ref C_NoChain) = some false
  S_NoCover_TooMany : PySem.W.subIn K (.ref C_NoCover) (.ref C_TooMany) = some false
  S_NoCover_NoForm : PySem.W.subIn K (.ref C_NoCover) (.ref C_NoForm) = some false
  S_NoCover_NoneYet : PySem.W.subIn K (.ref C_NoCover) (.ref C_NoneYet) = some false
section
variable {P : Program} {w : World} {K : PySem.W.Frag} {mg : Str → Option Value} {base : Heap}
theorem ok_need_word (T : Tp K mg) : FnOk P w K mg base (L2N.CX P w) 1 T.f_need_word T.d_need_word ps_need_word (spP K (cvK K) 1 F_need_word) :=
  fn_P N_need_word ps_need_word 1 1 (cf_need_word K mg) B_need_word rfl rfl T.F_need_word sc_need_word rfl (fun i h1 => by
    match i, h1 with
    | 0, _ => exact rfl
    | i + 1, h => exact absurd h (by simp)) (fun cdv A outer s H E hr tk pw =>
  (sss_one (ss_if (st_eq rfl hr.units (se_vS 0 (pv 0) rfl) (se_lst (c := .V) sa_nil)) (sss_one (ss_raise rfl rfl rfl tk T.X_NoWord)) sss_nil)))
theorem ok_need_signs (T : Tp K mg) : FnOk P w K mg base (L2N.CX P w) 1 T.f_need_signs T.d_need_signs ps_need_signs (spP K (cvK K) 1 F_need_signs) :=
  fn_P N_need_signs ps_need_signs 2 1 (cf_need_signs K mg) B_need_signs rfl rfl T.F_need_signs sc_need_signs rfl (fun i h1 => by
    match i, h1 with
    | 0, _ => exact rfl
    | i + 1, h => exact absurd h (by simp)) (fun cdv A outer s H E hr tk pw =>
  (sss_one (ss_if (st_ne rfl hr.units (se_lc (c := .S) (own := [(Str.ofString "sign", 1)]) rfl (own1 rfl) rfl sc_need_signs.nd (SI.w (si_list rfl (se_vS 0 (pv 0) rfl))) (blkOk_by (own := [(Str.ofString "sign", 1)]) (N := N_need_signs) (sc := (defScope s_need_signs)) (by decide +kernel)) (fun _ _ _ _ _ => (sgt_name (i := 1) (is := [1]) List.mem_cons_self rfl sc_need_signs.nd rfl (Or.inl rfl))) (fun _ _ _ _ _ => (sts_one (st_or2 (st_ne rfl hr.units (se_len rfl T.m_len (sa_cons (se_vS 1 (pv 1) rfl) sa_nil)) se_int) (st_notIn rfl (se_vS 1 (pv 1) rfl) (se_glob (v := (.str (Str.ofString "abcdefghijklmnopqrstuvwxyz"))) (pe_glob (by rfl) T.g_LETTERS ⟨_, rfl⟩) rfl))))) (fun _ _ _ _ _ => (se_vS 1 (pv 1) rfl))) (se_lst (c := .V) sa_nil)) (sss_one (ss_raise rfl rfl rfl tk T.X_NoSign)) sss_nil)))
theorem ok_need_text (T : Tp K mg) : FnOk P w K mg base (L2N.CX P w) 1 T.f_need_text T.d_need_text ps_need_text (spP K (cvK K) 1 F_need_text) :=
  fn_P N_need_text ps_need_text 1 1 (cf_need_text K mg) B_need_text rfl rfl T.F_need_text sc_need_text rfl (fun i h1 => by
    match i, h1 with
    | 0, _ => exact rfl
    | i + 1, h => exact absurd h (by simp)) (fun cdv A outer s H E hr tk pw =>
  (sss_one (ss_if (st_eq rfl hr.units (se_vS 0 (pv 0) rfl) (se_lst (c := .V) sa_nil)) (sss_one (ss_raise rfl rfl rfl tk T.X_NoText)) sss_nil)))
theorem ok_laid_at (T : Tp K mg) : FnOk P w K mg base (L2N.CX P w) 1 T.f_laid_at T.d_laid_at ps_laid_at (spP K (cvK K) 2 F_laid_at) :=
  fn_P N_laid_at ps_laid_at 4 2 (cf_laid_at K mg) B_laid_at rfl rfl T.F_laid_at sc_laid_at rfl (fun i h1 => by
    match i, h1 with
    | 0, _ => exact rfl
    | 1, _ => exact rfl
    | i + 2, h => exact absurd h (by simp)) (fun cdv A outer s H E hr tk pw =>
  (sss_cons (ss_setS (sg_of (i := 2) (SE.le (se_len rfl T.m_len (sa_cons (se_vS 1 (pv 1) rfl) sa_nil)) .vs) sc_laid_at.nd rfl (Or.inr rfl)) rfl)
  (sss_one (ss_ret (SE.le (SE.flat (se_lc (c := .S) (own := [(Str.ofString "place", 3)]) rfl (own1 rfl) rfl sc_laid_at.nd (SI.w (si_range1 (by rfl) T.m_range (sa_cons (SE.le (se_add (se_sub (se_len rfl T.m_len (sa_cons (se_vS 0 (pv 0) rfl) sa_nil)) (se_vS 2 (pv 2) rfl)) se_int) .vb) sa_nil))) (blkOk_by (own := [(Str.ofString "place", 3)]) (N := N_laid_at) (sc := (defScope s_laid_at)) (by decide +kernel)) (fun _ _ _ _ _ => (sgt_name (i := 3) (is := [3]) List.mem_cons_self rfl sc_laid_at.nd rfl (Or.inl rfl))) (fun _ _ _ _ _ => (sts_one (st_eq rfl hr.units (se_sl rfl (se_vS 0 (pv 0) rfl) (so_some (se_vS 3 (pv 3) rfl)) (so_some (se_add (se_vS 3 (pv 3) rfl) (se_vS 2 (pv 2) rfl)))) (se_vS 1 (pv 1) rfl)))) (fun _ _ _ _ _ => (se_vS 3 (pv 3) rfl)))) .vl)))))
theorem ok_hung_ahead (T : Tp K mg) : FnOk P w K mg base (L2N.CX P w) 1 T.f_hung_ahead T.d_hung_ahead ps_hung_ahead (spP K (cvK K) 2 F_hung_ahead) :=
  fn_P N_hung_ahead ps_hung_ahead 3 2 (cf_hung_ahead K mg) B_hung_ahead rfl rfl T.F_hung_ahead sc_hung_ahead rfl (fun i h1 => by
    match i, h1 with
    | 0, _ => exact rfl
    | 1, _ => exact rfl
    | i + 2, h => exact absurd h (by simp)) (fun cdv A outer s H E hr tk pw =>
  (sss_cons (ss_for pw rfl (si_range3 (by rfl) T.m_range (sa_cons (SE.le (se_min2 rfl T.m_min (sa_cons (SE.le (se_len rfl T.m_len (sa_cons (se_vS 0 (pv 0) rfl) sa_nil)) .vb) (sa_cons (SE.le (se_sub (se_len rfl T.m_len (sa_cons (se_vS 1 (pv 1) rfl) sa_nil)) se_int) .vb) sa_nil))) .vb) (sa_cons (SE.le se_int .vb) (sa_cons (SE.le (se_neg se_int) .vb) sa_nil)))) (sgt_name (i := 2) (is := [2]) List.mem_cons_self rfl sc_hung_ahead.nd rfl (Or.inl rfl)) (sss_one (ss_if (st_eq rfl hr.units (se_sl rfl (se_vS 1 (pv 1) rfl) (so_some (se_sub (se_len rfl T.m_len (sa_cons (se_vS 1 (pv 1) rfl) sa_nil)) (se_vS 2 (pv 2) rfl))) so_none) (se_sl rfl (se_vS 0 (pv 0) rfl) so_none (so_some (se_vS 2 (pv 2) rfl)))) (sss_one (ss_ret (SE.le (SE.scal (se_vS 2 (pv 2) rfl)) .vl))) sss_nil)))
  (sss_one (ss_ret (SE.le se_int .vl)))))
theorem ok_hung_behind (T : Tp K mg) : FnOk P w K mg base (L2N.CX P w) 1 T.f_hung_behind T.d_hung_behind ps_hung_behind (spP K (cvK K) 2 F_hung_behind) :=
  fn_P N_hung_behind ps_hung_behind 3 2 (cf_hung_behind K mg) B_hung_behind rfl rfl T.F_hung_behind sc_hung_behind rfl (fun i h1 => by
    match i, h1 with
    | 0, _ => exact rfl
    | 1, _ => exact rfl
    | i + 2, h => exact absurd h (by simp)) (fun cdv A outer s H E hr tk pw =>
  (sss_cons (ss_for pw rfl (si_range3 (by rfl) T.m_range (sa_cons (SE.le (se_min2 rfl T.m_min (sa_cons (SE.le (se_len rfl T.m_len (sa_cons (se_vS 0 (pv 0) rfl) sa_nil)) .vb) (sa_cons (SE.le (se_sub (se_len rfl T.m_len (sa_cons (se_vS 1 (pv 1) rfl) sa_nil)) se_int) .vb) sa_nil))) .vb) (sa_cons (SE.le se_int .vb) (sa_cons (SE.le (se_neg se_int) .vb) sa_nil)))) (sgt_name (i := 2) (is := [2]) List.mem_cons_self rfl sc_hung_behind.nd rfl (Or.inl rfl)) (sss_one (ss_if (st_eq rfl hr.units (se_sl rfl (se_vS 1 (pv 1) rfl) so_none (so_some (se_vS 2 (pv 2) rfl))) (se_sl rfl (se_vS 0 (pv 0) rfl) (so_some (se_sub (se_len rfl T.m_len (sa_cons (se_vS 0 (pv 0) rfl) sa_nil)) (se_vS 2 (pv 2) rfl))) so_none)) (sss_one (ss_ret (SE.le (SE.scal (se_vS 2 (pv 2) rfl)) .vl))) sss_nil)))
  (sss_one (ss_ret (SE.le se_int .vl)))))
theorem ok__law_cell_at (T : Tp K mg) : FnOk P w K mg base (L2N.CX P w) 1 T.f__law_cell_at T.d__law_cell_at ps__law_cell_at (spQ K (cvK K) 2 F__law_cell_at) :=
  fn_Q N__law_cell_at ps__law_cell_at 2 2 (cf__law_cell_at K mg) B__law_cell_at rfl rfl T.F__law_cell_at sc__law_cell_at rfl rfl (fun i h1 h2 => by
    match i, h1, h2 with
    | 1, _, _ => exact rfl
    | i + 2, _, h => exact absurd h (by simp)) (fun cdv A outer s H E hr tk pw =>
  (sss_cons (ss_if (st_lt (se_vS 1 (pv 1) rfl) (se_lenQ rfl T.m_len (pv 0) rfl)) (sss_one (ss_ret (SE.le (se_ixQ rfl (pv 0) rfl (se_vS 1 (pv 1) rfl) (fun _ _ => rfl)) .vl))) sss_nil)
  (sss_one (ss_ret (SE.le se_int .vl)))))
theorem ok__law_deck (T : Tp K mg) : FnOk P w K mg base (L2N.CX P w) 1 T.f__law_deck T.d__law_deck ps__law_deck (spP K (cvK K) 1 F__law_deck) :=
  fn_P N__law_deck ps__law_deck 1 1 (cf__law_deck K mg) B__law_deck rfl rfl T.F__law_deck sc__law_deck rfl (fun i h1 => by
    match i, h1 with
    | 0, _ => exact rfl
    | i + 1, h => exact absurd h (by simp)) (fun cdv A outer s H E hr tk pw =>
  (sss_one (ss_ret (SE.le (se_lst (sa_cons (se_max2 rfl T.m_max (sa_cons (SE.le se_int .vb) (sa_cons (SE.le (se_sub (se_vS 0 (pv 0) rfl) (se_pow se_int se_int)) .vb) sa_nil))) (sa_cons (se_mod (se_vS 0 (pv 0) rfl) se_int) (sa_cons se_int sa_nil)))) .vl))))
theorem ok__law_take (T : Tp K mg) : FnOk P w K mg base (L2N.CX P w) 1 T.f__law_take T.d__law_take ps__law_take (spW K (cvK K) 2 F__law_take_v3) :=
  fn_W N__law_take ps__law_take 4 2 (cf__law_take K mg) B__law_take_v3 rfl rfl T.F__law_take sc__law_take rfl rfl (fun i h1 h2 => by
    match i, h1, h2 with
    | 1, _, _ => exact rfl
    | i + 2, _, h => exact absurd h (by simp)) (fun cdv A outer s H E hr tk pw =>
  (sss_cons (ss_putW (i := 0) (pv 0) rfl (SE.le (se_add (se_ixW rfl (pv 0) rfl se_int (fun _ _ => rfl)) se_int) .vb) (SE.le se_int .vb))
  (sss_cons (ss_if (st_gt (se_ixW rfl (pv 0) rfl se_int (fun _ _ => rfl)) se_int) (sss_cons (ss_setS (sg_of (i := 3) (SE.le (se_mod (se_ixW rfl (pv 0) rfl se_int (fun _ _ => rfl)) se_int) .vs) sc__law_take.nd rfl (Or.inl rfl)) rfl)
  (sss_cons (ss_putW (i := 0) (pv 0) rfl (SE.le (se_fdiv (se_ixW rfl (pv 0) rfl se_int (fun _ _ => rfl)) se_int) .vb) (SE.le se_int .vb))
  (sss_one (ss_ret (SE.le (se_mod (se_vS 3 (pv 3) rfl) (se_vS 1 (pv 1) rfl)) .vl))))) sss_nil)
  (sss_cons (ss_setS (sg_of (i := 2) (SE.le (se_mod (se_mul (se_add (se_ixW rfl (pv 0) rfl se_int (fun _ _ => rfl)) (se_mul se_int (se_ixW rfl (pv 0) rfl se_int (fun _ _ => rfl)))) se_int) se_int) .vs) sc__law_take.nd rfl (Or.inl rfl)) rfl)
  (sss_cons (ss_setS (sg_of (i := 2) (SE.le (se_mod (se_mul (se_vS 2 (pv 2) rfl) (se_vS 2 (pv 2) rfl)) se_int) .vs) sc__law_take.nd rfl (Or.inl rfl)) rfl)
  (sss_one (ss_ret (SE.le (se_mod (se_fdiv (se_mod (se_mul (se_add (se_vS 2 (pv 2) rfl) (SE.le (se_mul se_int (se_ixW rfl (pv 0) rfl se_int (fun _ _ => rfl))) .vs)) (SE.le se_int .vs)) se_int) se_int) (se_vS 1 (pv 1) rfl)) .vl))))))))
theorem ok__law_is_covered (T : Tp K mg) : FnOk P w K mg base (L2N.CX P w) 1 T.f__law_is_covered T.d__law_is_covered ps__law_is_covered (spP K (cvK K) 2 F__law_is_covered) :=
  fn_P N__law_is_covered ps__law_is_covered 4 2 (cf__law_is_covered K mg) B__law_is_covered rfl rfl T.F__law_is_covered sc__law_is_covered rfl (fun i h1 => by
    match i, h1 with
    | 0, _ => exact rfl
    | 1, _ => exact rfl
    | i + 2, h => exact absurd h (by simp)) (fun cdv A outer s H E hr tk pw =>
  (sss_cons (ss_setS (sg_of (i := 2) (SE.le se_int .vs) sc__law_is_covered.nd rfl (Or.inl rfl)) rfl)
  (sss_cons (ss_for pw rfl (si_range1 (by rfl) T.m_range (sa_cons (SE.le (se_add (se_sub (se_len rfl T.m_len (sa_cons (se_vS 0 (pv 0) rfl) sa_nil)) (se_len rfl T.m_len (sa_cons (se_vS 1 (pv 1) rfl) sa_nil))) se_int) .vb) sa_nil)) (sgt_name (i := 3) (is := [3]) List.mem_cons_self rfl sc__law_is_covered.nd rfl (Or.inl rfl)) (sss_one (ss_if (st_and2 (st_le (se_vS 3 (pv 3) rfl) (se_vS 2 (pv 2) rfl)) (st_eq rfl hr.units (se_sl rfl (se_vS 0 (pv 0) rfl) (so_some (se_vS 3 (pv 3) rfl)) (so_some (se_add (se_vS 3 (pv 3) rfl) (SE.le (se_len rfl T.m_len (sa_cons (se_vS 1 (pv 1) rfl) sa_nil)) .vs)))) (se_vS 1 (pv 1) rfl))) (sss_one (ss_setS (sg_of (i := 2) (se_add (se_vS 3 (pv 3) rfl) (SE.le (se_len rfl T.m_len (sa_cons (se_vS 1 (pv 1) rfl) sa_nil)) .vs)) sc__law_is_covered.nd rfl (Or.inl rfl)) rfl)) sss_nil)))
  (sss_one (ss_ret (SE.le (se_ge (se_vS 2 (pv 2) rfl) (se_len rfl T.m_len (sa_cons (se_vS 0 (pv 0) rfl) sa_nil))) .vl))))))
theorem ok__law_kind (T : Tp K mg) : FnOk P w K mg base (L2N.CX P w) 1 T.f__law_kind T.d__law_kind ps__law_kind (spP K (cvK K) 1 F__law_kind_v2) :=
  fn_P N__law_kind ps__law_kind 3 1 (cf__law_kind K mg) B__law_kind_v2 rfl rfl T.F__law_kind sc__law_kind rfl (fun i h1 => by
    match i, h1 with
    | 0, _ => exact rfl
    | i + 1, h => exact absurd h (by simp)) (fun cdv A outer s H E hr tk pw =>
  (sss_cons (ss_setS (sg_of (i := 1) (SE.le (se_lst (sa_cons (se_isX (cs := [(Str.ofString "NoWord"), (Str.ofString "NoSign"), (Str.ofString "NoText"), (Str.ofString "NoCover")]) (T := (Str.ofString "NoWord")) rfl T.m_isinstance (ClsV.own T.C_NoWord) (List.forall_mem_cons.mpr ⟨⟨T.C_NoWord, T.X_NoWord.cv, T.E_NoWord, (kit_own T.X_NoWord.d T.X_NoWord.t T.X_NoWord.s T.S_NoWord_NoWord)⟩, (List.forall_mem_cons.mpr ⟨⟨T.C_NoSign, T.X_NoSign.cv, T.E_NoSign, (kit_own T.X_NoWord.d T.X_NoWord.t T.X_NoWord.s T.S_NoSign_NoWord)⟩, (List.forall_mem_cons.mpr ⟨⟨T.C_NoText, T.X_NoText.cv, T.E_NoText, (kit_own T.X_NoWord.d T.X_NoWord.t T.X_NoWord.s T.S_NoText_NoWord)⟩, (List.forall_mem_cons.mpr ⟨⟨T.C_NoCover, T.X_NoCover.cv, T.E_NoCover, (kit_own T.X_NoWord.d T.X_NoWord.t T.X_NoWord.s T.S_NoCover_NoWord)⟩, (fun _ h => nomatch h)⟩)⟩)⟩)⟩) (se_vS 0 (pv 0) rfl) (pe_glob (v := .ref T.C_NoWord) rfl T.X_NoWord.g rfl)) (sa_cons (se_isX (cs := [(Str.ofString "NoWord"), (Str.ofString "NoSign"), (Str.ofString "NoText"), (Str.ofString "NoCover")]) (T := (Str.ofString "NoSign")) rfl T.m_isinstance (ClsV.own T.C_NoSign) (List.forall_mem_cons.mpr ⟨⟨T.C_NoWord, T.X_NoWord.cv, T.E_NoWord, (kit_own T.X_NoSign.d T.X_NoSign.t T.X_NoSign.s T.S_NoWord_NoSign)⟩, (List.forall_mem_cons.mpr ⟨⟨T.C_NoSign, T.X_NoSign.cv, T.E_NoSign, (kit_own T.X_NoSign.d T.X_NoSign.t T.X_NoSign.s T.S_NoSign_NoSign)⟩, (List.forall_mem_cons.mpr ⟨⟨T.C_NoText, T.X_NoText.cv, T.E_NoText, (kit_own T.X_NoSign.d T.X_NoSign.t T.X_NoSign.s T.S_NoText_NoSign)⟩, (List.forall_mem_cons.mpr ⟨⟨T.C_NoCover, T.X_NoCover.cv, T.E_NoCover, (kit_own T.X_NoSign.d T.X_NoSign.t T.X_NoSign.s T.S_NoCover_NoSign)⟩, (fun _ h => nomatch h)⟩)⟩)⟩)⟩) (se_vS 0 (pv 0) rfl) (pe_glob (v := .ref T.C_NoSign) rfl T.X_NoSign.g rfl)) (sa_cons (se_isX (cs := [(Str.ofString "NoWord"), (Str.ofString "NoSign"), (Str.ofString "NoText"), (Str.ofString "NoCover")]) (T := (Str.ofString "NoText")) rfl T.m_isinstance (ClsV.own T.C_NoText) (List.forall_mem_cons.mpr ⟨⟨T.C_NoWord, T.X_NoWord.cv, T.E_NoWord, (kit_own T.X_NoText.d T.X_NoText.t T.X_NoText.s T.S_NoWord_NoText)⟩, (List.forall_mem_cons.mpr ⟨⟨T.C_NoSign, T.X_NoSign.cv, T.E_NoSign, (kit_own T.X_NoText.d T.X_NoText.t T.X_NoText.s T.S_NoSign_NoText)⟩, (List.forall_mem_cons.mpr ⟨⟨T.C_NoText, T.X_NoText.cv, T.E_NoText, (kit_own T.X_NoText.d T.X_NoText.t T.X_NoText.s T.S_NoText_NoText)⟩, (List.forall_mem_cons.mpr ⟨⟨T.C_NoCover, T.X_NoCover.cv, T.E_NoCover, (kit_own T.X_NoText.d T.X_NoText.t T.X_NoText.s T.S_NoCover_NoText)⟩, (fun _ h => nomatch h)⟩)⟩)⟩)⟩) (se_vS 0 (pv 0) rfl) (pe_glob (v := .ref T.C_NoText) rfl T.X_NoText.g rfl)) sa_nil)))) .vs) sc__law_kind.nd rfl (Or.inl rfl)) rfl)
  (sss_cons (ss_setS (sg_of (i := 1) (se_add (se_vS 1 (pv 1) rfl) (SE.le (se_lst (sa_cons (se_isX (cs := [(Str.ofString "NoWord"), (Str.ofString "NoSign"), (Str.ofString "NoText"), (Str.ofString "NoCover")]) (T := (Str.ofString "NoCover")) rfl T.m_isinstance (ClsV.own T.C_NoCover) (List.forall_mem_cons.mpr ⟨⟨T.C_NoWord, T.X_NoWord.cv, T.E_NoWord, (kit_own T.X_NoCover.d T.X_NoCover.t T.X_NoCover.s T.S_NoWord_NoCover)⟩, (List.forall_mem_cons.mpr ⟨⟨T.C_NoSign, T.X_NoSign.cv, T.E_NoSign, (kit_own T.X_NoCover.d T.X_NoCover.t T.X_NoCover.s T.S_NoSign_NoCover)⟩, (List.forall_mem_cons.mpr ⟨⟨T.C_NoText, T.X_NoText.cv, T.E_NoText, (kit_own T.X_NoCover.d T.X_NoCover.t T.X_NoCover.s T.S_NoText_NoCover)⟩, (List.forall_mem_cons.mpr ⟨⟨T.C_NoCover, T.X_NoCover.cv, T.E_NoCover, (kit_own T.X_NoCover.d T.X_NoCover.t T.X_NoCover.s T.S_NoCover_NoCover)⟩, (fun _ h => nomatch h)⟩)⟩)⟩)⟩) (se_vS 0 (pv 0) rfl) (pe_glob (v := .ref T.C_NoCover) rfl T.X_NoCover.g rfl)) (sa_cons (se_isX (cs := [(Str.ofString "NoWord"), (Str.ofString "NoSign"), (Str.ofString "NoText"), (Str.ofString "NoCover")]) (T := (Str.ofString "NoNumber")) rfl T.m_isinstance (ClsV.own T.C_NoNumber) (List.forall_mem_cons.mpr ⟨⟨T.C_NoWord, T.X_NoWord.cv, T.E_NoWord, (kit_own T.X_NoNumber.d T.X_NoNumber.t T.X_NoNumber.s T.S_NoWord_NoNumber)⟩, (List.forall_mem_cons.mpr ⟨⟨T.C_NoSign, T.X_NoSign.cv, T.E_NoSign, (kit_own T.X_NoNumber.d T.X_NoNumber.t T.X_NoNumber.s T.S_NoSign_NoNumber)⟩, (List.forall_mem_cons.mpr ⟨⟨T.C_NoText, T.X_NoText.cv, T.E_NoText, (kit_own T.X_NoNumber.d T.X_NoNumber.t T.X_NoNumber.s T.S_NoText_NoNumber)⟩, (List.forall_mem_cons.mpr ⟨⟨T.C_NoCover, T.X_NoCover.cv, T.E_NoCover, (kit_own T.X_NoNumber.d T.X_NoNumber.t T.X_NoNumber.s T.S_NoCover_NoNumber)⟩, (fun _ h => nomatch h)⟩)⟩)⟩)⟩) (se_vS 0 (pv 0) rfl) (pe_glob (v := .ref T.C_NoNumber) rfl T.X_NoNumber.g rfl)) (sa_cons (se_isX (cs := [(Str.ofString "NoWord"), (Str.ofString "NoSign"), (Str.ofString "NoText"), (Str.ofString "NoCover")]) (T := (Str.ofString "TooMany")) rfl T.m_isinstance (ClsV.own T.C_TooMany) (List.forall_mem_cons.mpr ⟨⟨T.C_NoWord, T.X_NoWord.cv, T.E_NoWord, (kit_own T.X_TooMany.d T.X_TooMany.t T.X_TooMany.s T.S_NoWord_TooMany)⟩, (List.forall_mem_cons.mpr ⟨⟨T.C_NoSign, T.X_NoSign.cv, T.E_NoSign, (kit_own T.X_TooMany.d T.X_TooMany.t T.X_TooMany.s T.S_NoSign_TooMany)⟩, (List.forall_mem_cons.mpr ⟨⟨T.C_NoText, T.X_NoText.cv, T.E_NoText, (kit_own T.X_TooMany.d T.X_TooMany.t T.X_TooMany.s T.S_NoText_TooMany)⟩, (List.forall_mem_cons.mpr ⟨⟨T.C_NoCover, T.X_NoCover.cv, T.E_NoCover, (kit_own T.X_TooMany.d T.X_TooMany.t T.X_TooMany.s T.S_NoCover_TooMany)⟩, (fun _ h => nomatch h)⟩)⟩)⟩)⟩) (se_vS 0 (pv 0) rfl) (pe_glob (v := .ref T.C_TooMany) rfl T.X_TooMany.g rfl)) sa_nil)))) .vs)) sc__law_kind.nd rfl (Or.inl rfl)) rfl)
  (sss_cons (ss_setS (sg_of (i := 2) (SE.le (se_isXT (cs := [(Str.ofString "NoWord"), (Str.ofString "NoSign"), (Str.ofString "NoText"), (Str.ofString "NoCover")]) (Ts := [(Str.ofString "NoChain"), (Str.ofString "NoForm"), (Str.ofString "NoneYet")]) (vT := [V.ref T.C_NoChain, V.ref T.C_NoForm, V.ref T.C_NoneYet]) rfl T.m_isinstance (.cons (ClsV.own T.C_NoChain) (.cons (ClsV.own T.C_NoForm) (.cons (ClsV.own T.C_NoneYet) .nil))) (Nat.le_of_ble_eq_true rfl) (List.forall_mem_cons.mpr ⟨⟨T.C_NoWord, T.X_NoWord.cv, T.E_NoWord, (.cons (kit_own T.X_NoChain.d T.X_NoChain.t T.X_NoChain.s T.S_NoWord_NoChain) (.cons (kit_own T.X_NoForm.d T.X_NoForm.t T.X_NoForm.s T.S_NoWord_NoForm) (.cons (kit_own T.X_NoneYet.d T.X_NoneYet.t T.X_NoneYet.s T.S_NoWord_NoneYet) .nil)))⟩, (List.forall_mem_cons.mpr ⟨⟨T.C_NoSign, T.X_NoSign.cv, T.E_NoSign, (.cons (kit_own T.X_NoChain.d T.X_NoChain.t T.X_NoChain.s T.S_NoSign_NoChain) (.cons (kit_own T.X_NoForm.d T.X_NoForm.t T.X_NoForm.s T.S_NoSign_NoForm) (.cons (kit_own T.X_NoneYet.d T.X_NoneYet.t T.X_NoneYet.s T.S_NoSign_NoneYet) .nil)))⟩, (List.forall_mem_cons.mpr ⟨⟨T.C_NoText, T.X_NoText.cv, T.E_NoText, (.cons (kit_own T.X_NoChain.d T.X_NoChain.t T.X_NoChain.s T.S_NoText_NoChain) (.cons (kit_own T.X_NoForm.d T.X_NoForm.t T.X_NoForm.s T.S_NoText_NoForm) (.cons (kit_own T.X_NoneYet.d T.X_NoneYet.t T.X_NoneYet.s T.S_NoText_NoneYet) .nil)))⟩, (List.forall_mem_cons.mpr ⟨⟨T.C_NoCover, T.X_NoCover.cv, T.E_NoCover, (.cons (kit_own T.X_NoChain.d T.X_NoChain.t T.X_NoChain.s T.S_NoCover_NoChain) (.cons (kit_own T.X_NoForm.d T.X_NoForm.t T.X_NoForm.s T.S_NoCover_NoForm) (.cons (kit_own T.X_NoneYet.d T.X_NoneYet.t T.X_NoneYet.s T.S_NoCover_NoneYet) .nil)))⟩, (fun _ h => nomatch h)⟩)⟩)⟩)⟩) (se_vS 0 (pv 0) rfl) (pa_cons (pe_glob (v := .ref T.C_NoChain) rfl T.X_NoChain.g rfl) (pa_cons (pe_glob (v := .ref T.C_NoForm) rfl T.X_NoForm.g rfl) (pa_cons (pe_glob (v := .ref T.C_NoneYet) rfl T.X_NoneYet.g rfl) pa_nil)))) .vs) sc__law_kind.nd rfl (Or.inl rfl)) rfl)
  (sss_cons (ss_if (st_or3 (st_tru rfl (se_vS 2 (pv 2) rfl)) (st_not (st_val (se_isX (cs := [(Str.ofString "NoWord"), (Str.ofString "NoSign"), (Str.ofString "NoText"), (Str.ofString "NoCover")]) (T := (Str.ofString "ValueError")) rfl T.m_isinstance (ClsV.ty "ValueError") (List.forall_mem_cons.mpr ⟨⟨T.C_NoWord, T.X_NoWord.cv, T.E_NoWord, (kit_blt (by decide +kernel) T.V_NoWord)⟩, (List.forall_mem_cons.mpr ⟨⟨T.C_NoSign, T.X_NoSign.cv, T.E_NoSign, (kit_blt (by decide +kernel) T.V_NoSign)⟩, (List.forall_mem_cons.mpr ⟨⟨T.C_NoText, T.X_NoText.cv, T.E_NoText, (kit_blt (by decide +kernel) T.V_NoText)⟩, (List.forall_mem_cons.mpr ⟨⟨T.C_NoCover, T.X_NoCover.cv, T.E_NoCover, (kit_blt (by decide +kernel) T.V_NoCover)⟩, (fun _ h => nomatch h)⟩)⟩)⟩)⟩) (se_vS 0 (pv 0) rfl) (pe_bltn (v := .ty "ValueError") rfl T.m_ValueError (by decide +kernel) rfl)))) (st_ne rfl hr.units (se_count rfl (se_vS 1 (pv 1) rfl) (sa_cons (SE.le se_bl .vs) sa_nil)) se_int)) (sss_one (ss_ret (SE.le se_str .vl))) sss_nil)
  (sss_one (ss_ret (SE.le (se_ix rfl (se_lst (sa_cons se_str (sa_cons se_str (sa_cons se_str (sa_cons se_str (sa_cons se_str (sa_cons se_str sa_nil))))))) (se_index rfl (se_vS 1 (pv 1) rfl) (sa_cons (SE.le se_bl .vs) sa_nil)) (fun _ _ => rfl)) .vl))))))))
theorem ok__law_ends (T : Tp K mg) : FnOk P w K mg base (L2N.CX P w) 1 T.f__law_ends T.d__law_ends ps__law_ends (spP K (cvK K) 2 F__law_ends_v2) :=
  fn_P N__law_ends ps__law_ends 7 2 (cf__law_ends K mg) B__law_ends_v2 rfl rfl T.F__law_ends sc__law_ends rfl (fun i h1 => by
    match i, h1 with
    | 0, _ => exact rfl
    | 1, _ => exact rfl
    | i + 2, h => exact absurd h (by simp)) (fun cdv A outer s H E hr tk pw =>
  (sss_cons (ss_setS (sg_of (i := 2) (SE.le (se_len rfl T.m_len (sa_cons (se_vS 1 (pv 1) rfl) sa_nil)) .vs) sc__law_ends.nd rfl (Or.inl rfl)) rfl)
  (sss_cons (ss_setN (sg_of (i := 3) (SE.le (se_lst (sa_cons se_int sa_nil)) .vn) sc__law_ends.nd rfl (Or.inl rfl)) rfl)
  (sss_cons (ss_setN (sg_of (i := 4) (SE.le (se_lst (sa_cons se_int sa_nil)) .vn) sc__law_ends.nd rfl (Or.inl rfl)) rfl)
  (sss_cons (ss_for pw rfl (si_range3 (by rfl) T.m_range (sa_cons (SE.le (se_sub (se_vS 2 (pv 2) rfl) se_int) .vb) (sa_cons (SE.le se_int .vb) (sa_cons (SE.le (se_neg se_int) .vb) sa_nil)))) (sgt_name (i := 5) (is := [5]) List.mem_cons_self rfl sc__law_ends.nd rfl (Or.inl rfl)) (sss_cons (ss_setS (sg_of (i := 6) (SE.le (se_sub (se_vS 2 (pv 2) rfl) (se_vS 5 (pv 5) rfl)) .vs) sc__law_ends.nd rfl (Or.inl rfl)) rfl)
  (sss_cons (ss_if (st_and2 (st_le (se_vS 6 (pv 6) rfl) (se_len rfl T.m_len (sa_cons (se_vS 0 (pv 0) rfl) sa_nil))) (st_eq rfl hr.units (se_sl rfl (se_vS 1 (pv 1) rfl) (so_some (se_vS 5 (pv 5) rfl)) so_none) (se_sl rfl (se_vS 0 (pv 0) rfl) so_none (so_some (se_vS 6 (pv 6) rfl))))) (sss_one (ss_setN (sg_of (i := 3) (SE.le (SE.flat (se_lst (sa_cons (SE.le se_int .vs) (sa_cons (se_vS 5 (pv 5) rfl) sa_nil)))) .vn) sc__law_ends.nd rfl (Or.inl rfl)) rfl)) sss_nil)
  (sss_one (ss_if (st_and2 (st_le (se_vS 6 (pv 6) rfl) (se_len rfl T.m_len (sa_cons (se_vS 0 (pv 0) rfl) sa_nil))) (st_eq rfl hr.units (se_sl rfl (se_vS 1 (pv 1) rfl) so_none (so_some (se_vS 6 (pv 6) rfl))) (se_sl rfl (se_vS 0 (pv 0) rfl) (so_some (se_sub (se_len rfl T.m_len (sa_cons (se_vS 0 (pv 0) rfl) sa_nil)) (se_vS 6 (pv 6) rfl))) so_none))) (sss_one (ss_setN (sg_of (i := 4) (SE.le (SE.flat (se_lst (sa_cons (SE.le se_int .vs) (sa_cons (se_vS 5 (pv 5) rfl) sa_nil)))) .vn) sc__law_ends.nd rfl (Or.inl rfl)) rfl)) sss_nil)))))
  (sss_one (ss_ret (SE.le (se_lst (sa_cons (se_vN 3 (pv 3) rfl) (sa_cons (se_vN 4 (pv 4) rfl) sa_nil))) .nl))))))))
theorem ok_need_both (T : Tp K mg) : FnOk P w K mg base (L2N.CX P w) 2 T.f_need_both T.d_need_both ps_need_both (spP K (cvK K) 2 F_need_both) :=
  fn_P N_need_both ps_need_both 2 2 (cf_need_both K mg) B_need_both rfl rfl T.F_need_both sc_need_both rfl (fun i h1 => by
    match i, h1 with
    | 0, _ => exact rfl
    | 1, _ => exact rfl
    | i + 2, h => exact absurd h (by simp)) (fun cdv A outer s H E hr tk pw =>
  (sss_cons (ss_expr (se_call rfl tk (ok_need_word T) hr (by rfl) T.g_need_word T.F_need_word.kp T.b_need_word (sa_cons (SE.le (se_vS 1 (pv 1) rfl) .sb) sa_nil) (fun _ _ _ => aLen_cons (fun _ _ _ => aLen_nil))))
  (sss_cons (ss_expr (se_call rfl tk (ok_need_signs T) hr (by rfl) T.g_need_signs T.F_need_signs.kp T.b_need_signs (sa_cons (SE.le (se_add (se_vS 0 (pv 0) rfl) (se_vS 1 (pv 1) rfl)) .sb) sa_nil) (fun _ _ _ => aLen_cons (fun _ _ _ => aLen_nil))))
  (sss_one (ss_expr (se_call rfl tk (ok_need_text T) hr (by rfl) T.g_need_text T.F_need_text.kp T.b_need_text (sa_cons (SE.le (se_vS 0 (pv 0) rfl) .sb) sa_nil) (fun _ _ _ => aLen_cons (fun _ _ _ => aLen_nil))))))))
theorem ok_covers_amid (T : Tp K mg) : FnOk P w K mg base (L2N.CX P w) 2 T.f_covers_amid T.d_covers_amid ps_covers_amid (spP K (cvK K) 4 F_covers_amid) :=
  fn_P N_covers_amid ps_covers_amid 6 4 (cf_covers_amid K mg) B_covers_amid rfl rfl T.F_covers_amid sc_covers_amid rfl (fun i h1 => by
    match i, h1 with
    | 0, _ => exact rfl
    | 1, _ => exact rfl
    | 2, _ => exact rfl
    | 3, _ => exact rfl
    | i + 4, h => exact absurd h (by simp)) (fun cdv A outer s H E hr tk pw =>
  (sss_cons (ss_setS (sg_of (i := 4) (se_vS 2 (pv 2) rfl) sc_covers_amid.nd rfl (Or.inl rfl)) rfl)
  (sss_cons (ss_for pw rfl (si_list rfl (SE.le (se_call rfl tk (ok_laid_at T) hr (by rfl) T.g_laid_at T.F_laid_at.kp T.b_laid_at (sa_cons (SE.le (se_vS 0 (pv 0) rfl) .sb) (sa_cons (SE.le (se_vS 1 (pv 1) rfl) .sb) sa_nil)) (fun _ _ _ => aLen_cons (fun _ _ _ => aLen_cons (fun _ _ _ => aLen_nil)))) .vs)) (sgt_name (i := 5) (is := [5]) List.mem_cons_self rfl sc_covers_amid.nd rfl (Or.inl rfl)) (sss_one (ss_if (st_le (se_vS 5 (pv 5) rfl) (se_vS 4 (pv 4) rfl)) (sss_one (ss_setS (sg_of (i := 4) (SE.le (se_max2 rfl T.m_max (sa_cons (SE.le (se_vS 4 (pv 4) rfl) .sb) (sa_cons (SE.le (se_add (se_vS 5 (pv 5) rfl) (SE.le (se_len rfl T.m_len (sa_cons (se_vS 1 (pv 1) rfl) sa_nil)) .vs)) .sb) sa_nil))) .vs) sc_covers_amid.nd rfl (Or.inl rfl)) rfl)) sss_nil)))
  (sss_one (ss_ret (SE.le (se_ge (se_vS 4 (pv 4) rfl) (se_vS 3 (pv 3) rfl)) .vl))))))
theorem ok_is_within (T : Tp K mg) : FnOk P w K mg base (L2N.CX P w) 2 T.f_is_within T.d_is_within ps_is_within (spP K (cvK K) 2 F_is_within) :=
  fn_P N_is_within ps_is_within 2 2 (cf_is_within K mg) B_is_within rfl rfl T.F_is_within sc_is_within rfl (fun i h1 => by
    match i, h1 with
    | 0, _ => exact rfl
    | 1, _ => exact rfl
    | i + 2, h => exact absurd h (by simp)) (fun cdv A outer s H E hr tk pw =>
  (sss_one (ss_ret (SE.le (se_ne rfl hr.units (se_call rfl tk (ok_laid_at T) hr (by rfl) T.g_laid_at T.F_laid_at.kp T.b_laid_at (sa_cons (SE.le (se_vS 1 (pv 1) rfl) .sb) (sa_cons (SE.le (se_vS 0 (pv 0) rfl) .sb) sa_nil)) (fun _ _ _ => aLen_cons (fun _ _ _ => aLen_cons (fun _ _ _ => aLen_nil)))) (se_lst (c := .V) sa_nil)) .vl))))
theorem ok__law_letters (T : Tp K mg) : FnOk P w K mg base (L2N.CX P w) 2 T.f__law_letters T.d__law_letters ps__law_letters (spW K (cvK K) 1 F__law_letters_v3) :=
  fn_W N__law_letters ps__law_letters 6 1 (cf__law_letters K mg) B__law_letters_v3 rfl rfl T.F__law_letters sc__law_letters rfl rfl (fun i h1 h2 => by
    match i, h1, h2 with
    | i + 1, _, h => exact absurd h (by simp)) (fun cdv A outer s H E hr tk pw =>
  (sss_cons (ss_setS (sg_of (i := 1) (SE.le se_str .vs) sc__law_letters.nd rfl (Or.inr rfl)) rfl)
  (sss_cons (ss_setS (sg_of (i := 2) (SE.le (se_callW rfl tk (ok__law_take T) hr (by rfl) T.g__law_take T.F__law_take.kp T.b__law_take rfl (pv 0) (sa_cons (SE.le se_int .vb) sa_nil) (aLen1 (fun _ _ _ => aLen_cons (fun _ _ _ => aLen_nil)))) .vs) sc__law_letters.nd rfl (Or.inr rfl)) rfl)
  (sss_cons (ss_setS (sg_of (i := 3) (SE.le (se_ix rfl (se_lst (sa_cons se_int (sa_cons se_int (sa_cons se_int (sa_cons se_int (sa_cons se_int (sa_cons se_int (sa_cons se_int (sa_cons se_int (sa_cons se_int (sa_cons se_int (sa_cons se_int (sa_cons se_int sa_nil))))))))))))) (se_callW rfl tk (ok__law_take T) hr (by rfl) T.g__law_take T.F__law_take.kp T.b__law_take rfl (pv 0) (sa_cons (SE.le se_int .vb) sa_nil) (aLen1 (fun _ _ _ => aLen_cons (fun _ _ _ => aLen_nil)))) (fun _ _ => rfl)) .vs) sc__law_letters.nd rfl (Or.inr rfl)) rfl)
  (sss_cons (ss_setS (sg_of (i := 4) (SE.le (se_ix rfl (se_lst (sa_cons se_int (sa_cons se_int (sa_cons se_int (sa_cons se_int (sa_cons se_int (sa_cons se_int sa_nil))))))) (se_callW rfl tk (ok__law_take T) hr (by rfl) T.g__law_take T.F__law_take.kp T.b__law_take rfl (pv 0) (sa_cons (SE.le se_int .vb) sa_nil) (aLen1 (fun _ _ _ => aLen_cons (fun _ _ _ => aLen_nil)))) (fun _ _ => rfl)) .vs) sc__law_letters.nd rfl (Or.inl rfl)) rfl)
  (sss_one (ss_ret (SE.le (SE.flat (se_lc (c := .S) (own := [(Str.ofString "k", 5)]) rfl (own1 rfl) rfl sc__law_letters.nd (SI.w (si_range1 (by rfl) T.m_range (sa_cons (SE.le (se_vS 4 (pv 4) rfl) .sb) sa_nil))) (blkOk_by (own := [(Str.ofString "k", 5)]) (N := N__law_letters) (sc := (defScope s__law_letters)) (by decide +kernel)) (fun _ _ _ _ _ => (sgt_name (i := 5) (is := [5]) List.mem_cons_self rfl sc__law_letters.nd rfl (Or.inl rfl))) (fun _ _ _ _ _ => sts_nil) (fun _ _ _ _ _ => (se_ix rfl (se_vS 1 (pv 1) rfl) (SE.le (se_mod (se_add (se_vS 2 (pv 2) rfl) (se_mul (se_vS 3 (pv 3) rfl) (se_vS 5 (pv 5) rfl))) se_int) .vs) (fun _ _ => rfl))))) .vl))))))))
theorem ok__law_signs (T : Tp K mg) : FnOk P w K mg base (L2N.CX P w) 2 T.f__law_signs T.d__law_signs ps__law_signs (spW K (cvK K) 3 F__law_signs_v3) :=
  fn_W N__law_signs ps__law_signs 4 3 (cf__law_signs K mg) B__law_signs_v3 rfl rfl T.F__law_signs sc__law_signs rfl rfl (fun i h1 h2 => by
    match i, h1, h2 with
    | 1, _, _ => exact rfl
    | 2, _, _ => exact rfl
    | i + 3, _, h => exact absurd h (by simp)) (fun cdv A outer s H E hr tk pw =>
  (sss_one (ss_ret (SE.le (SE.flat (se_lc (c := .S) (own := [(Str.ofString "k", 3)]) rfl (own1 rfl) rfl sc__law_signs.nd (SI.w (si_range1 (by rfl) T.m_range (sa_cons (SE.le (se_vS 2 (pv 2) rfl) .sb) sa_nil))) (blkOk_by (own := [(Str.ofString "k", 3)]) (N := N__law_signs) (sc := (defScope s__law_signs)) (by decide +kernel)) (fun _ _ _ _ _ => (sgt_name (i := 3) (is := [3]) List.mem_cons_self rfl sc__law_signs.nd rfl (Or.inl rfl))) (fun _ _ _ _ _ => sts_nil) (fun _ _ _ _ _ => (se_ix rfl (se_vS 1 (pv 1) rfl) (SE.le (se_callW rfl takes0N (ok__law_take T) hr (by rfl) T.g__law_take T.F__law_take.kp T.b__law_take rfl (pv 0) (sa_cons (SE.le (se_len rfl T.m_len (sa_cons (se_vS 1 (pv 1) rfl) sa_nil)) .vb) sa_nil) (aLen1 (fun _ _ _ => aLen_cons (fun _ _ _ => aLen_nil)))) .vs) (fun _ _ => rfl))))) .vl))))
theorem ok__law_due (T : Tp K mg) : FnOk P w K mg base (L2N.CX P w) 2 T.f__law_due T.d__law_due ps__law_due (spPV K (cvK K) 2 F__law_due_v26) :=
  fn_PV N__law_due ps__law_due 11 2 (cf__law_due K mg) B__law_due_v26 rfl rfl T.F__law_due sc__law_due rfl (fun i h1 => by
    match i, h1 with
    | 0, _ => exact rfl
    | 1, _ => exact rfl
    | i + 2, h => exact absurd h (by simp)) (fun cdv A outer s H E hr tk pw =>
  (sss_cons (ss_setS (sg_of (i := 2) (SE.le (se_lrg1 rfl T.m_list T.m_range (se_len rfl T.m_len (sa_cons (se_vN 1 (pv 1) rfl) sa_nil))) .vs) sc__law_due.nd rfl (Or.inl rfl)) rfl)
  (sss_cons (ss_par (i := 3) (j := 4) rfl rfl rfl sc__law_due.nd rfl rfl (by decide) rfl rfl (sa_cons (se_vS 2 (pv 2) rfl) (sa_cons (se_vS 2 (pv 2) rfl) sa_nil)))
  (sss_cons (ss_setM (sg_of (i := 5) (se_lst (c := .V) sa_nil) sc__law_due.nd rfl (Or.inl rfl)) rfl)
  (sss_cons (ss_if (st_gt (se_len rfl T.m_len (sa_cons (se_vN 1 (pv 1) rfl) sa_nil)) se_int) (sss_cons (ss_unp (SE.le (se_call rfl tk (ok__law_ends T) hr (by rfl) T.g__law_ends T.F__law_ends.kp T.b__law_ends (sa_cons (SE.le (se_vN 0 (pv 0) rfl) .nb) (sa_cons (SE.le (se_vN 1 (pv 1) rfl) .nb) sa_nil)) (fun _ _ _ => aLen_cons (fun _ _ _ => aLen_cons (fun _ _ _ => aLen_nil)))) .vs) (sgt_tupL (is := [3, 4]) (js := [3, 4]) rfl rfl (sgts_cons (i := 3) (by decide) rfl sc__law_due.nd rfl (Or.inl rfl) (sgts_cons (i := 4) (by decide) rfl sc__law_due.nd rfl (Or.inl rfl) sgts_nil)) rfl))
  (sss_cons (ss_setS (sg_lc (i := 7) (c := .S) (own := [(Str.ofString "place", 10)]) rfl (own1 rfl) rfl sc__law_due.nd rfl rfl (sw_true rfl rfl rfl (by decide +kernel)) (SI.w (si_list rfl (se_vS 2 (pv 2) rfl))) (blkOk_by (own := [(Str.ofString "place", 10)]) (N := N__law_due) (sc := (defScope s__law_due)) (by decide +kernel)) (fun _ _ _ _ _ => (sgt_name (i := 10) (is := [10]) List.mem_cons_self rfl sc__law_due.nd rfl (Or.inl rfl))) (fun _ _ _ _ _ => (sts_one (st_eq rfl hr.units (se_sl rfl (se_vN 1 (pv 1) rfl) (so_some (se_vS 10 (pv 10) rfl)) (so_some (se_add (se_vS 10 (pv 10) rfl) (SE.le (se_len rfl T.m_len (sa_cons (se_vN 0 (pv 0) rfl) sa_nil)) .vs)))) (se_vN 0 (pv 0) rfl)))) (fun _ _ _ _ _ => (se_vS 10 (pv 10) rfl))) rfl)
  (sss_one (ss_setMM (i := 5) (sa_cons (se_tup (sa_cons (SE.le (se_len rfl T.m_len (sa_cons (se_vN 1 (pv 1) rfl) sa_nil)) .vn) (sa_cons (se_vN 1 (pv 1) rfl) sa_nil))) sa_nil) (se_min2 rfl T.m_min (sa_cons (SE.le se_int .vb) (sa_cons (SE.le (se_len rfl T.m_len (sa_cons (se_vS 7 (pv 7) rfl) sa_nil)) .vb) sa_nil))) rfl sc__law_due.nd rfl (Or.inl rfl))))) sss_nil)
  (sss_cons (ss_for pw rfl (si_list rfl (se_vS 3 (pv 3) rfl)) (sgt_name (i := 6) (is := [6]) List.mem_cons_self rfl sc__law_due.nd rfl (Or.inl rfl)) (sss_one (ss_for pw rfl (si_list rfl (se_vS 4 (pv 4) rfl)) (sgt_name (i := 8) (is := [8]) List.mem_cons_self rfl sc__law_due.nd rfl (Or.inl rfl)) (sss_cons (ss_setN (sg_of (i := 9) (se_add (se_add (se_sl rfl (se_vN 1 (pv 1) rfl) so_none (so_some (se_vS 6 (pv 6) rfl))) (se_vN 0 (pv 0) rfl)) (se_sl rfl (se_vN 1 (pv 1) rfl) (so_some (se_sub (se_len rfl T.m_len (sa_cons (se_vN 1 (pv 1) rfl) sa_nil)) (se_vS 8 (pv 8) rfl))) so_none)) sc__law_due.nd rfl (Or.inl rfl)) rfl)
  (sss_one (ss_if (st_val (se_call rfl tk (ok__law_is_covered T) hr (by rfl) T.g__law_is_covered T.F__law_is_covered.kp T.b__law_is_covered (sa_cons (SE.le (se_vN 9 (pv 9) rfl) .nb) (sa_cons (SE.le (se_vN 1 (pv 1) rfl) .nb) sa_nil)) (fun _ _ _ => aLen_cons (fun _ _ _ => aLen_cons (fun _ _ _ => aLen_nil))))) (sss_one (ss_app (i := 5) rfl (pv 5) rfl (se_tup (sa_cons (SE.le (se_len rfl T.m_len (sa_cons (se_vN 9 (pv 9) rfl) sa_nil)) .vn) (sa_cons (se_vN 9 (pv 9) rfl) sa_nil))))) sss_nil))))))
  (sss_cons (ss_if (st_eq rfl hr.units (se_vM 5 (pv 5) rfl) (se_lst (c := .V) sa_nil)) (sss_one (ss_ret (SE.le se_non .vl))) sss_nil)
  (sss_one (ss_ret (se_ix rfl (se_minD rfl rfl hr.units T.m_min (sa_cons (se_vM 5 (pv 5) rfl) sa_nil)) (SE.le se_int .vl) (fun _ _ => rfl)))))))))))
theorem ok_shown_with_rests (T : Tp K mg) : FnOk P w K mg base (L2N.CX P w) 3 T.f_shown_with_rests T.d_shown_with_rests ps_shown_with_rests (spP K (cvK K) 2 F_shown_with_rests_v2) :=
  fn_P N_shown_with_rests ps_shown_with_rests 9 2 (cf_shown_with_rests K mg) B_shown_with_rests_v2 rfl rfl T.F_shown_with_rests sc_shown_with_rests rfl (fun i h1 => by
    match i, h1 with
    | 0, _ => exact rfl
    | 1, _ => exact rfl
    | i + 2, h => exact absurd h (by simp)) (fun cdv A outer s H E hr tk pw =>
  (sss_cons (ss_expr (se_call rfl tk (ok_need_both T) hr (by rfl) T.g_need_both T.F_need_both.kp T.b_need_both (sa_cons (SE.le (se_vS 0 (pv 0) rfl) .sb) (sa_cons (SE.le (se_vS 1 (pv 1) rfl) .sb) sa_nil)) (fun _ _ _ => aLen_cons (fun _ _ _ => aLen_cons (fun _ _ _ => aLen_nil)))))
  (sss_cons (ss_setM (sg_of (i := 2) (se_lst (c := .V) sa_nil) sc_shown_with_rests.nd rfl (Or.inl rfl)) rfl)
  (sss_cons (ss_if (st_val (se_call rfl tk (ok_is_within T) hr (by rfl) T.g_is_within T.F_is_within.kp T.b_is_within (sa_cons (SE.le (se_vS 0 (pv 0) rfl) .sb) (sa_cons (SE.le (se_vS 1 (pv 1) rfl) .sb) sa_nil)) (fun _ _ _ => aLen_cons (fun _ _ _ => aLen_cons (fun _ _ _ => aLen_nil))))) (sss_one (ss_app (i := 2) rfl (pv 2) rfl (SE.le (SE.flat (se_list1 rfl T.m_list (sa_cons (se_vS 1 (pv 1) rfl) sa_nil))) .vn))) sss_nil)
  (sss_cons (ss_setS (sg_of (i := 3) (SE.le (se_call rfl tk (ok_hung_ahead T) (hr.mono (by decide : 1 ≤ 2)) (by rfl) T.g_hung_ahead T.F_hung_ahead.kp T.b_hung_ahead (sa_cons (SE.le (se_vS 0 (pv 0) rfl) .sb) (sa_cons (SE.le (se_vS 1 (pv 1) rfl) .sb) sa_nil)) (fun _ _ _ => aLen_cons (fun _ _ _ => aLen_cons (fun _ _ _ => aLen_nil)))) .vs) sc_shown_with_rests.nd rfl (Or.inl rfl)) rfl)
  (sss_cons (ss_setS (sg_of (i := 4) (SE.le (se_call rfl tk (ok_hung_behind T) (hr.mono (by decide : 1 ≤ 2)) (by rfl) T.g_hung_behind T.F_hung_behind.kp T.b_hung_behind (sa_cons (SE.le (se_vS 0 (pv 0) rfl) .sb) (sa_cons (SE.le (se_vS 1 (pv 1) rfl) .sb) sa_nil)) (fun _ _ _ => aLen_cons (fun _ _ _ => aLen_cons (fun _ _ _ => aLen_nil)))) .vs) sc_shown_with_rests.nd rfl (Or.inl rfl)) rfl)
  (sss_cons (ss_for pw rfl (si_list rfl (SE.le (se_sortSet rfl rfl T.m_sorted T.m_set (sa_cons (se_lst (sa_cons (SE.le se_int .vs) (sa_cons (se_vS 3 (pv 3) rfl) sa_nil))) sa_nil)) .vs)) (sgt_name (i := 5) (is := [5]) List.mem_cons_self rfl sc_shown_with_rests.nd rfl (Or.inl rfl)) (sss_one (ss_for pw rfl (si_list rfl (SE.le (se_sortSet rfl rfl T.m_sorted T.m_set (sa_cons (se_lst (sa_cons (SE.le se_int .vs) (sa_cons (se_vS 4 (pv 4) rfl) sa_nil))) sa_nil)) .vs)) (sgt_name (i := 6) (is := [6]) List.mem_cons_self rfl sc_shown_with_rests.nd rfl (Or.inl rfl)) (sss_one (ss_if (st_val (se_call rfl tk (ok_covers_amid T) hr (by rfl) T.g_covers_amid T.F_covers_amid.kp T.b_covers_amid (sa_cons (SE.le (se_vS 0 (pv 0) rfl) .sb) (sa_cons (SE.le (se_vS 1 (pv 1) rfl) .sb) (sa_cons (SE.le (se_vS 5 (pv 5) rfl) .sb) (sa_cons (SE.le (se_sub (se_len rfl T.m_len (sa_cons (se_vS 0 (pv 0) rfl) sa_nil)) (se_vS 6 (pv 6) rfl)) .vb) sa_nil)))) (fun _ _ _ => aLen_cons (fun _ _ _ => aLen_cons (fun _ _ _ => aLen_cons (fun _ _ _ => aLen_cons (fun _ _ _ => aLen_nil))))))) (sss_cons (ss_setS (sg_of (i := 7) (se_ifE (st_gt (se_vS 5 (pv 5) rfl) se_int) (se_sl rfl (se_vS 1 (pv 1) rfl) so_none (so_some (se_sub (se_len rfl T.m_len (sa_cons (se_vS 1 (pv 1) rfl) sa_nil)) (se_vS 5 (pv 5) rfl)))) (SE.le (se_lst (c := .V) sa_nil) .vs)) sc_shown_with_rests.nd rfl (Or.inl rfl)) rfl)
  (sss_one (ss_app (i := 2) rfl (pv 2) rfl (SE.le (SE.flat (se_add (se_add (se_vS 7 (pv 7) rfl) (se_vS 0 (pv 0) rfl)) (se_ifE (st_gt (se_vS 6 (pv 6) rfl) se_int) (se_sl rfl (se_vS 1 (pv 1) rfl) (so_some (se_vS 6 (pv 6) rfl)) so_none) (SE.le (se_lst (c := .V) sa_nil) .vs)))) .vn)))) sss_nil)))))
  (sss_cons (ss_if (st_eq rfl hr.units (se_vM 2 (pv 2) rfl) (se_lst (c := .V) sa_nil)) (sss_one (ss_raise rfl rfl rfl tk T.X_NoCover)) sss_nil)
  (sss_one (ss_ret (SE.le (se_ix rfl (se_minD rfl rfl hr.units T.m_min (sa_cons (se_lcN (c := .N) (own := [(Str.ofString "one", 8)]) rfl (own1N rfl) rfl sc_shown_with_rests.nd (si_listN rfl (pv 2) rfl) (blkOk_by (own := [(Str.ofString "one", 8)]) (N := N_shown_with_rests) (sc := (defScope s_shown_with_rests)) (by decide +kernel)) (fun _ _ _ _ _ => (sgt_nameN (i := 8) (is := [8]) List.mem_cons_self rfl sc_shown_with_rests.nd rfl (Or.inl rfl))) (fun _ _ _ _ _ => sts_nil) (fun _ _ _ _ _ => (se_tup (sa_cons (SE.le (se_len rfl T.m_len (sa_cons (se_vN 8 (pv 8) rfl) sa_nil)) .vn) (sa_cons (se_vN 8 (pv 8) rfl) sa_nil))))) sa_nil)) (SE.le se_int .vn) (fun _ _ => rfl)) .nl)))))))))))
theorem ok__law_word (T : Tp K mg) : FnOk P w K mg base (L2N.CX P w) 3 T.f__law_word T.d__law_word ps__law_word (spW K (cvK K) 3 F__law_word_v4) :=
  fn_W N__law_word ps__law_word 5 3 (cf__law_word K mg) B__law_word_v4 rfl rfl T.F__law_word sc__law_word rfl rfl (fun i h1 h2 => by
    match i, h1, h2 with
    | 1, _, _ => exact rfl
    | 2, _, _ => exact rfl
    | i + 3, _, h => exact absurd h (by simp)) (fun cdv A outer s H E hr tk pw =>
  (sss_cons (ss_setS (sg_of (i := 3) (SE.le (se_callW rfl tk (ok__law_take T) (hr.mono (by decide : 1 ≤ 2)) (by rfl) T.g__law_take T.F__law_take.kp T.b__law_take rfl (pv 0) (sa_cons (SE.le se_int .vb) sa_nil) (aLen1 (fun _ _ _ => aLen_cons (fun _ _ _ => aLen_nil)))) .vs) sc__law_word.nd rfl (Or.inl rfl)) rfl)
  (sss_cons (ss_setN (sg_of (i := 4) (SE.le (se_callW rfl tk (ok__law_signs T) hr (by rfl) T.g__law_signs T.F__law_signs.kp T.b__law_signs rfl (pv 0) (sa_cons (SE.le (se_vS 1 (pv 1) rfl) .sb) (sa_cons (SE.le (se_add se_int (se_callW rfl tk (ok__law_take T) (hr.mono (by decide : 1 ≤ 2)) (by rfl) T.g__law_take T.F__law_take.kp T.b__law_take rfl (pv 0) (sa_cons (SE.le (se_vS 2 (pv 2) rfl) .sb) sa_nil) (aLen1 (fun _ _ _ => aLen_cons (fun _ _ _ => aLen_nil))))) .vb) sa_nil)) (aLen1 (fun _ _ _ => aLen_cons (fun _ _ _ => aLen_cons (fun _ _ _ => aLen_nil))))) .vn) sc__law_word.nd rfl (Or.inl rfl)) rfl)
  (sss_cons (ss_if (st_eq rfl hr.units (se_vS 3 (pv 3) rfl) se_int) (sss_one (ss_setN (sg_of (i := 4) (se_add (se_add (se_vN 4 (pv 4) rfl) (SE.le (se_callW rfl tk (ok__law_signs T) hr (by rfl) T.g__law_signs T.F__law_signs.kp T.b__law_signs rfl (pv 0) (sa_cons (SE.le (se_vS 1 (pv 1) rfl) .sb) (sa_cons (SE.le (se_callW rfl tk (ok__law_take T) (hr.mono (by decide : 1 ≤ 2)) (by rfl) T.g__law_take T.F__law_take.kp T.b__law_take rfl (pv 0) (sa_cons (SE.le se_int .vb) sa_nil) (aLen1 (fun _ _ _ => aLen_cons (fun _ _ _ => aLen_nil)))) .vb) sa_nil)) (aLen1 (fun _ _ _ => aLen_cons (fun _ _ _ => aLen_cons (fun _ _ _ => aLen_nil))))) .vn)) (se_vN 4 (pv 4) rfl)) sc__law_word.nd rfl (Or.inl rfl)) rfl)) sss_nil)
  (sss_cons (ss_if (st_eq rfl hr.units (se_vS 3 (pv 3) rfl) se_int) (sss_one (ss_setN (sg_of (i := 4) (se_add (se_mul (se_vN 4 (pv 4) rfl) (SE.le (se_add se_int (se_callW rfl tk (ok__law_take T) (hr.mono (by decide : 1 ≤ 2)) (by rfl) T.g__law_take T.F__law_take.kp T.b__law_take rfl (pv 0) (sa_cons (SE.le se_int .vb) sa_nil) (aLen1 (fun _ _ _ => aLen_cons (fun _ _ _ => aLen_nil))))) .vn)) (se_sl rfl (se_vN 4 (pv 4) rfl) so_none (so_some (se_callW rfl tk (ok__law_take T) (hr.mono (by decide : 1 ≤ 2)) (by rfl) T.g__law_take T.F__law_take.kp T.b__law_take rfl (pv 0) (sa_cons (SE.le (se_add (se_len rfl T.m_len (sa_cons (se_vN 4 (pv 4) rfl) sa_nil)) se_int) .vb) sa_nil) (aLen1 (fun _ _ _ => aLen_cons (fun _ _ _ => aLen_nil))))))) sc__law_word.nd rfl (Or.inl rfl)) rfl)) sss_nil)
  (sss_one (ss_ret (SE.le (se_vN 4 (pv 4) rfl) .nl))))))))
theorem ok__law_overlaid (T : Tp K mg) : FnOk P w K mg base (L2N.CX P w) 3 T.f__law_overlaid T.d__law_overlaid ps__law_overlaid (spW K (cvK K) 4 F__law_overlaid_v2) :=
  fn_W N__law_overlaid ps__law_overlaid 9 4 (cf__law_overlaid K mg) B__law_overlaid_v2 rfl rfl T.F__law_overlaid sc__law_overlaid rfl rfl (fun i h1 h2 => by
    match i, h1, h2 with
    | 1, _, _ => exact rfl
    | 2, _, _ => exact rfl
    | 3, _, _ => exact rfl
    | i + 4, _, h => exact absurd h (by simp)) (fun cdv A outer s H E hr tk pw =>
  (sss_cons (ss_setN (sg_of (i := 4) (SE.le (SE.flat (se_list1 rfl T.m_list (sa_cons (se_vS 2 (pv 2) rfl) sa_nil))) .vn) sc__law_overlaid.nd rfl (Or.inr rfl)) rfl)
  (sss_cons (ss_for pw rfl (si_range1 (by rfl) T.m_range (sa_cons (SE.le (se_vS 3 (pv 3) rfl) .sb) sa_nil)) (sgt_name (i := 5) (is := [5]) List.mem_cons_self rfl sc__law_overlaid.nd rfl (Or.inl rfl)) (sss_cons (ss_setS (sg_lc (i := 6) (c := .S) (own := [(Str.ofString "j", 8)]) rfl (own1 rfl) rfl sc__law_overlaid.nd rfl rfl (sw_true rfl rfl rfl (by decide +kernel)) (SI.w (si_range1 (by rfl) T.m_range (sa_cons (SE.le (se_len rfl T.m_len (sa_cons (se_vS 2 (pv 2) rfl) sa_nil)) .vb) sa_nil))) (blkOk_by (own := [(Str.ofString "j", 8)]) (N := N__law_overlaid) (sc := (defScope s__law_overlaid)) (by decide +kernel)) (fun _ _ _ _ _ => (sgt_name (i := 8) (is := [8]) List.mem_cons_self rfl sc__law_overlaid.nd rfl (Or.inl rfl))) (fun _ _ _ _ _ => (sts_one (st_or2 (st_eq rfl hr.units (se_vS 8 (pv 8) rfl) se_int) (st_eq rfl hr.units (se_sl rfl (se_vN 4 (pv 4) rfl) (so_some (se_sub (se_len rfl T.m_len (sa_cons (se_vN 4 (pv 4) rfl) sa_nil)) (se_vS 8 (pv 8) rfl))) so_none) (se_sl rfl (se_vS 2 (pv 2) rfl) so_none (so_some (se_vS 8 (pv 8) rfl))))))) (fun _ _ _ _ _ => (se_vS 8 (pv 8) rfl))) rfl)
  (sss_cons (ss_setS (sg_of (i := 7) (se_ix rfl (se_vS 6 (pv 6) rfl) (SE.le (se_callW rfl tk (ok__law_take T) (hr.mono (by decide : 1 ≤ 2)) (by rfl) T.g__law_take T.F__law_take.kp T.b__law_take rfl (pv 0) (sa_cons (SE.le (se_len rfl T.m_len (sa_cons (se_vS 6 (pv 6) rfl) sa_nil)) .vb) sa_nil) (aLen1 (fun _ _ _ => aLen_cons (fun _ _ _ => aLen_nil)))) .vs) (fun _ _ => rfl)) sc__law_overlaid.nd rfl (Or.inl rfl)) rfl)
  (sss_cons (ss_if (st_eq rfl hr.units (se_callW rfl tk (ok__law_take T) (hr.mono (by decide : 1 ≤ 2)) (by rfl) T.g__law_take T.F__law_take.kp T.b__law_take rfl (pv 0) (sa_cons (SE.le se_int .vb) sa_nil) (aLen1 (fun _ _ _ => aLen_cons (fun _ _ _ => aLen_nil)))) se_int) (sss_cons (ss_setN (sg_of (i := 4) (se_add (se_vN 4 (pv 4) rfl) (SE.le (se_callW rfl tk (ok__law_signs T) hr (by rfl) T.g__law_signs T.F__law_signs.kp T.b__law_signs rfl (pv 0) (sa_cons (SE.le (se_vS 1 (pv 1) rfl) .sb) (sa_cons (SE.le se_int .vb) sa_nil)) (aLen1 (fun _ _ _ => aLen_cons (fun _ _ _ => aLen_cons (fun _ _ _ => aLen_nil))))) .vn)) sc__law_overlaid.nd rfl (Or.inr rfl)) rfl)
  (sss_one (ss_setS (sg_of (i := 7) (SE.le se_int .vs) sc__law_overlaid.nd rfl (Or.inl rfl)) rfl))) sss_nil)
  (sss_one (ss_setN (sg_of (i := 4) (SE.le (SE.flat (se_add (SE.le (se_vN 4 (pv 4) rfl) .ns) (se_sl rfl (se_vS 2 (pv 2) rfl) (so_some (se_vS 7 (pv 7) rfl)) so_none))) .vn) sc__law_overlaid.nd rfl (Or.inr rfl)) rfl))))))
  (sss_one (ss_ret (SE.le (se_vN 4 (pv 4) rfl) .nl))))))
theorem ok__law_bent (T : Tp K mg) : FnOk P w K mg base (L2N.CX P w) 3 T.f__law_bent T.d__law_bent ps__law_bent (spW K (cvK K) 3 F__law_bent) :=
  fn_W N__law_bent ps__law_bent 5 3 (cf__law_bent K mg) B__law_bent rfl rfl T.F__law_bent sc__law_bent rfl rfl (fun i h1 h2 => by
    match i, h1, h2 with
    | 1, _, _ => exact rfl
    | 2, _, _ => exact rfl
    | i + 3, _, h => exact absurd h (by simp)) (fun cdv A outer s H E hr tk pw =>
  (sss_cons (ss_setS (sg_of (i := 3) (SE.le (se_callW rfl tk (ok__law_take T) (hr.mono (by decide : 1 ≤ 2)) (by rfl) T.g__law_take T.F__law_take.kp T.b__law_take rfl (pv 0) (sa_cons (SE.le (se_add (se_len rfl T.m_len (sa_cons (se_vS 2 (pv 2) rfl) sa_nil)) se_int) .vb) sa_nil) (aLen1 (fun _ _ _ => aLen_cons (fun _ _ _ => aLen_nil)))) .vs) sc__law_bent.nd rfl (Or.inl rfl)) rfl)
  (sss_cons (ss_setS (sg_of (i := 4) (SE.le (se_callW rfl tk (ok__law_take T) (hr.mono (by decide : 1 ≤ 2)) (by rfl) T.g__law_take T.F__law_take.kp T.b__law_take rfl (pv 0) (sa_cons (SE.le se_int .vb) sa_nil) (aLen1 (fun _ _ _ => aLen_cons (fun _ _ _ => aLen_nil)))) .vs) sc__law_bent.nd rfl (Or.inl rfl)) rfl)
  (sss_cons (ss_if (st_eq rfl hr.units (se_vS 4 (pv 4) rfl) se_int) (sss_one (ss_ret (SE.le (SE.flat (se_add (se_sl rfl (se_vS 2 (pv 2) rfl) so_none (so_some (se_vS 3 (pv 3) rfl))) (se_sl rfl (se_vS 2 (pv 2) rfl) (so_some (se_add (se_vS 3 (pv 3) rfl) (SE.le se_int .vs))) so_none))) .vl))) sss_nil)
  (sss_one (ss_ret (SE.le (SE.flat (se_add (se_add (se_sl rfl (se_vS 2 (pv 2) rfl) so_none (so_some (se_vS 3 (pv 3) rfl))) (SE.le (se_callW rfl tk (ok__law_signs T) hr (by rfl) T.g__law_signs T.F__law_signs.kp T.b__law_signs rfl (pv 0) (sa_cons (SE.le (se_vS 1 (pv 1) rfl) .sb) (sa_cons (SE.le se_int .vb) sa_nil)) (aLen1 (fun _ _ _ => aLen_cons (fun _ _ _ => aLen_cons (fun _ _ _ => aLen_nil))))) .vs)) (se_sl rfl (se_vS 2 (pv 2) rfl) (so_some (se_sub (se_add (se_vS 3 (pv 3) rfl) (SE.le se_int .vs)) (se_vS 4 (pv 4) rfl))) so_none))) .vl)))))))
theorem ok__law_pair (T : Tp K mg) : FnOk P w K mg base (L2N.CX P w) 4 T.f__law_pair T.d__law_pair ps__law_pair (spW K (cvK K) 2 F__law_pair) :=
  fn_W N__law_pair ps__law_pair 7 2 (cf__law_pair K mg) B__law_pair rfl rfl T.F__law_pair sc__law_pair rfl rfl (fun i h1 h2 => by
    match i, h1, h2 with
    | 1, _, _ => exact rfl
    | i + 2, _, h => exact absurd h (by simp)) (fun cdv A outer s H E hr tk pw =>
  (sss_cons (ss_setN (sg_of (i := 2) (SE.le (se_callW rfl tk (ok__law_letters T) (hr.mono (by decide : 2 ≤ 3)) (by rfl) T.g__law_letters T.F__law_letters.kp T.b__law_letters rfl (pv 0) sa_nil (aLen1 (fun _ _ _ => aLen_nil))) .vn) sc__law_pair.nd rfl (Or.inl rfl)) rfl)
  (sss_cons (ss_setN (sg_of (i := 3) (SE.le (se_callW rfl tk (ok__law_word T) hr (by rfl) T.g__law_word T.F__law_word.kp T.b__law_word rfl (pv 0) (sa_cons (SE.le (se_vN 2 (pv 2) rfl) .nb) (sa_cons (SE.le (se_ix rfl (se_lst (sa_cons se_int (sa_cons se_int (sa_cons se_int sa_nil)))) (se_callW rfl tk (ok__law_take T) (hr.mono (by decide : 1 ≤ 3)) (by rfl) T.g__law_take T.F__law_take.kp T.b__law_take rfl (pv 0) (sa_cons (SE.le se_int .vb) sa_nil) (aLen1 (fun _ _ _ => aLen_cons (fun _ _ _ => aLen_nil)))) (fun _ _ => rfl)) .vb) sa_nil)) (aLen1 (fun _ _ _ => aLen_cons (fun _ _ _ => aLen_cons (fun _ _ _ => aLen_nil))))) .vn) sc__law_pair.nd rfl (Or.inl rfl)) rfl)
  (sss_cons (ss_setN (sg_of (i := 4) (SE.le (se_callW rfl tk (ok__law_overlaid T) hr (by rfl) T.g__law_overlaid T.F__law_overlaid.kp T.b__law_overlaid rfl (pv 0) (sa_cons (SE.le (se_vN 2 (pv 2) rfl) .nb) (sa_cons (SE.le (se_vN 3 (pv 3) rfl) .nb) (sa_cons (SE.le (se_callW rfl tk (ok__law_take T) (hr.mono (by decide : 1 ≤ 3)) (by rfl) T.g__law_take T.F__law_take.kp T.b__law_take rfl (pv 0) (sa_cons (SE.le se_int .vb) sa_nil) (aLen1 (fun _ _ _ => aLen_cons (fun _ _ _ => aLen_nil)))) .vb) sa_nil))) (aLen1 (fun _ _ _ => aLen_cons (fun _ _ _ => aLen_cons (fun _ _ _ => aLen_cons (fun _ _ _ => aLen_nil)))))) .vn) sc__law_pair.nd rfl (Or.inl rfl)) rfl)
  (sss_cons (ss_if (st_and2 (st_tru rfl (se_vS 1 (pv 1) rfl)) (st_eq rfl hr.units (se_callW rfl tk (ok__law_take T) (hr.mono (by decide : 1 ≤ 3)) (by rfl) T.g__law_take T.F__law_take.kp T.b__law_take rfl (pv 0) (sa_cons (SE.le se_int .vb) sa_nil) (aLen1 (fun _ _ _ => aLen_cons (fun _ _ _ => aLen_nil)))) se_int)) (sss_cons (ss_setN (sg_of (i := 4) (SE.le (se_callW rfl tk (ok__law_overlaid T) hr (by rfl) T.g__law_overlaid T.F__law_overlaid.kp T.b__law_overlaid rfl (pv 0) (sa_cons (SE.le (se_vN 2 (pv 2) rfl) .nb) (sa_cons (SE.le (se_vN 3 (pv 3) rfl) .nb) (sa_cons (SE.le se_int .vb) sa_nil))) (aLen1 (fun _ _ _ => aLen_cons (fun _ _ _ => aLen_cons (fun _ _ _ => aLen_cons (fun _ _ _ => aLen_nil)))))) .vn) sc__law_pair.nd rfl (Or.inl rfl)) rfl)
  (sss_one (ss_while WFUEL pw (st_lt (se_len rfl T.m_len (sa_cons (se_vN 4 (pv 4) rfl) sa_nil)) se_int) (sss_one (ss_setN (sg_of (i := 4) (se_add (se_vN 4 (pv 4) rfl) (se_vN 4 (pv 4) rfl)) sc__law_pair.nd rfl (Or.inl rfl)) rfl))))) sss_nil)
  (sss_cons (ss_setS (sg_of (i := 5) (SE.le (se_callW rfl tk (ok__law_take T) (hr.mono (by decide : 1 ≤ 3)) (by rfl) T.g__law_take T.F__law_take.kp T.b__law_take rfl (pv 0) (sa_cons (SE.le (se_ix rfl (se_lst (sa_cons se_int (sa_cons (se_add (se_len rfl T.m_len (sa_cons (se_vN 3 (pv 3) rfl) sa_nil)) se_int) sa_nil))) (se_callW rfl tk (ok__law_take T) (hr.mono (by decide : 1 ≤ 3)) (by rfl) T.g__law_take T.F__law_take.kp T.b__law_take rfl (pv 0) (sa_cons (SE.le se_int .vb) sa_nil) (aLen1 (fun _ _ _ => aLen_cons (fun _ _ _ => aLen_nil)))) (fun _ _ => rfl)) .vb) sa_nil) (aLen1 (fun _ _ _ => aLen_cons (fun _ _ _ => aLen_nil)))) .vs) sc__law_pair.nd rfl (Or.inl rfl)) rfl)
  (sss_cons (ss_setS (sg_of (i := 6) (SE.le (se_callW rfl tk (ok__law_take T) (hr.mono (by decide : 1 ≤ 3)) (by rfl) T.g__law_take T.F__law_take.kp T.b__law_take rfl (pv 0) (sa_cons (SE.le (se_ix rfl (se_lst (sa_cons se_int (sa_cons (se_add (se_len rfl T.m_len (sa_cons (se_vN 3 (pv 3) rfl) sa_nil)) se_int) sa_nil))) (se_callW rfl tk (ok__law_take T) (hr.mono (by decide : 1 ≤ 3)) (by rfl) T.g__law_take T.F__law_take.kp T.b__law_take rfl (pv 0) (sa_cons (SE.le se_int .vb) sa_nil) (aLen1 (fun _ _ _ => aLen_cons (fun _ _ _ => aLen_nil)))) (fun _ _ => rfl)) .vb) sa_nil) (aLen1 (fun _ _ _ => aLen_cons (fun _ _ _ => aLen_nil)))) .vs) sc__law_pair.nd rfl (Or.inl rfl)) rfl)
  (sss_cons (ss_setN (sg_of (i := 4) (se_sl rfl (se_sl rfl (se_vN 4 (pv 4) rfl) (so_some (se_vS 5 (pv 5) rfl)) so_none) so_none (so_some se_int)) sc__law_pair.nd rfl (Or.inl rfl)) rfl)
  (sss_cons (ss_setN (sg_of (i := 4) (se_sl rfl (se_vN 4 (pv 4) rfl) so_none (so_some (se_sub (se_len rfl T.m_len (sa_cons (se_vN 4 (pv 4) rfl) sa_nil)) (se_min2 rfl T.m_min (sa_cons (SE.le (se_vS 6 (pv 6) rfl) .sb) (sa_cons (SE.le (se_len rfl T.m_len (sa_cons (se_vN 4 (pv 4) rfl) sa_nil)) .vb) sa_nil)))))) sc__law_pair.nd rfl (Or.inl rfl)) rfl)
  (sss_cons (ss_if (st_eq rfl hr.units (se_callW rfl tk (ok__law_take T) (hr.mono (by decide : 1 ≤ 3)) (by rfl) T.g__law_take T.F__law_take.kp T.b__law_take rfl (pv 0) (sa_cons (SE.le se_int .vb) sa_nil) (aLen1 (fun _ _ _ => aLen_cons (fun _ _ _ => aLen_nil)))) se_int) (sss_one (ss_setN (sg_of (i := 4) (SE.le (se_sl rfl (se_callW rfl tk (ok__law_bent T) hr (by rfl) T.g__law_bent T.F__law_bent.kp T.b__law_bent rfl (pv 0) (sa_cons (SE.le (se_vN 2 (pv 2) rfl) .nb) (sa_cons (SE.le (se_vN 4 (pv 4) rfl) .nb) sa_nil)) (aLen1 (fun _ _ _ => aLen_cons (fun _ _ _ => aLen_cons (fun _ _ _ => aLen_nil))))) so_none (so_some se_int)) .vn) sc__law_pair.nd rfl (Or.inl rfl)) rfl)) sss_nil)
  (sss_cons (ss_if (st_eq rfl hr.units (se_callW rfl tk (ok__law_take T) (hr.mono (by decide : 1 ≤ 3)) (by rfl) T.g__law_take T.F__law_take.kp T.b__law_take rfl (pv 0) (sa_cons (SE.le se_int .vb) sa_nil) (aLen1 (fun _ _ _ => aLen_cons (fun _ _ _ => aLen_nil)))) se_int) (sss_one (ss_setN (sg_of (i := 3) (SE.le (se_callW rfl tk (ok__law_bent T) hr (by rfl) T.g__law_bent T.F__law_bent.kp T.b__law_bent rfl (pv 0) (sa_cons (SE.le (se_vN 2 (pv 2) rfl) .nb) (sa_cons (SE.le (se_vN 3 (pv 3) rfl) .nb) sa_nil)) (aLen1 (fun _ _ _ => aLen_cons (fun _ _ _ => aLen_cons (fun _ _ _ => aLen_nil))))) .vn) sc__law_pair.nd rfl (Or.inl rfl)) rfl)) sss_nil)
  (sss_one (ss_ret (SE.le (se_tup (sa_cons (se_orT rfl (se_vN 4 (pv 4) rfl) (se_one (SE.nn (se_sl rfl (se_vN 2 (pv 2) rfl) so_none (so_some se_int))))) (sa_cons (se_orT rfl (se_vN 3 (pv 3) rfl) (se_one (SE.nn (se_sl rfl (se_vN 2 (pv 2) rfl) so_none (so_some se_int))))) sa_nil))) .nl))))))))))))))
theorem ok__law_refused (T : Tp K mg) : FnOk P w K mg base (L2N.CX P w) 4 T.f__law_refused T.d__law_refused ps__law_refused (spP K (cvK K) 2 F__law_refused_v2) :=
  fn_P N__law_refused ps__law_refused 4 2 (cf__law_refused K mg) B__law_refused_v2 rfl rfl T.F__law_refused sc__law_refused rfl (fun i h1 => by
    match i, h1 with
    | 0, _ => exact rfl
    | 1, _ => exact rfl
    | i + 2, h => exact absurd h (by simp)) (fun cdv A outer s H E hr tk pw =>
  (sss_cons (ss_setS (sg_of (i := 2) (SE.le se_non .vs) sc__law_refused.nd rfl (Or.inl rfl)) rfl)
  (sss_cons (ss_tryK (cs := [(Str.ofString "NoWord"), (Str.ofString "NoSign"), (Str.ofString "NoText"), (Str.ofString "NoCover")]) (i := 2) (j := 3) rfl rfl rfl rfl rfl sc__law_refused.nd rfl rfl rfl (Or.inl rfl) (by decide) rfl rfl ⟨rfl, by decide, .inl T.X_CoverError.g⟩ tk (List.forall_mem_cons.mpr ⟨(exm_cv T.X_NoWord T.X_CoverError T.S_NoWord_CoverError), (List.forall_mem_cons.mpr ⟨(exm_cv T.X_NoSign T.X_CoverError T.S_NoSign_CoverError), (List.forall_mem_cons.mpr ⟨(exm_cv T.X_NoText T.X_CoverError T.S_NoText_CoverError), (List.forall_mem_cons.mpr ⟨(exm_cv T.X_NoCover T.X_CoverError T.S_NoCover_CoverError), (fun _ h => nomatch h)⟩)⟩)⟩)⟩) (fun _ _ => pv 3) rfl (by first | exact .inl rfl | exact .inr rfl) (fun W pn xe tk pw => (sss_one (ss_expr (se_call rfl tk (ok_shown_with_rests T) hr (by rfl) T.g_shown_with_rests T.F_shown_with_rests.kp T.b_shown_with_rests (sa_cons (SE.le (se_vS 0 (pv 0) rfl) .sb) (sa_cons (SE.le (se_vS 1 (pv 1) rfl) .sb) sa_nil)) (fun _ _ _ => aLen_cons (fun _ _ _ => aLen_cons (fun _ _ _ => aLen_nil))))))))
  (sss_one (ss_ret (SE.le (se_and (se_notN (se_vS 2 (pv 2) rfl) se_non) (se_one (se_eq rfl hr.units (se_call rfl tk (ok__law_kind T) (hr.mono (by decide : 1 ≤ 3)) (by rfl) T.g__law_kind T.F__law_kind.kp T.b__law_kind (sa_cons (SE.le (se_vS 2 (pv 2) rfl) .sb) sa_nil) (fun _ _ _ => aLen_cons (fun _ _ _ => aLen_nil))) se_str))) .vl))))))
theorem ok__law_right (T : Tp K mg) : FnOk P w K mg base (L2N.CX P w) 5 T.f__law_right T.d__law_right ps__law_right (spP K (cvK K) 2 F__law_right_v35) :=
  fn_P N__law_right ps__law_right 6 2 (cf__law_right K mg) B__law_right_v35 rfl rfl T.F__law_right sc__law_right rfl (fun i h1 => by
    match i, h1 with
    | 0, _ => exact rfl
    | 1, _ => exact rfl
    | i + 2, h => exact absurd h (by simp)) (fun cdv A outer s H E hr tk pw =>
  (sss_cons (ss_setS (sg_of (i := 2) (se_lst (sa_cons (se_list1 rfl T.m_list (sa_cons (se_vS 0 (pv 0) rfl) sa_nil)) (sa_cons (se_list1 rfl T.m_list (sa_cons (se_vS 1 (pv 1) rfl) sa_nil)) sa_nil))) sc__law_right.nd rfl (Or.inl rfl)) rfl)
  (sss_cons (ss_setS (sg_of (i := 3) (se_callPV rfl tk (ok__law_due T) (hr.mono (by decide : 2 ≤ 4)) (by rfl) T.g__law_due T.F__law_due.kp T.b__law_due (sa_cons (se_vS 0 (pv 0) rfl) (sa_cons (se_vS 1 (pv 1) rfl) sa_nil)) (fun _ _ _ => aLen_cons (fun _ _ _ => aLen_cons (fun _ _ _ => aLen_nil)))) sc__law_right.nd rfl (Or.inl rfl)) rfl)
  (sss_cons (ss_for pw rfl (si_range1 (by rfl) T.m_range (sa_cons (SE.le se_int .vb) sa_nil)) (sgt_name (i := 4) (is := [4]) List.mem_cons_self rfl sc__law_right.nd rfl (Or.inl rfl)) (sss_cons (ss_if (st_isN (se_vS 3 (pv 3) rfl) se_non) (sss_one (ss_if (st_not (st_val (se_call rfl tk (ok__law_refused T) hr (by rfl) T.g__law_refused T.F__law_refused.kp T.b__law_refused (sa_cons (SE.le (se_ix rfl (se_vS 2 (pv 2) rfl) (SE.le se_int .vs) (fun _ _ => rfl)) .sb) (sa_cons (SE.le (se_ix rfl (se_vS 2 (pv 2) rfl) (SE.le se_int .vs) (fun _ _ => rfl)) .sb) sa_nil)) (fun _ _ _ => aLen_cons (fun _ _ _ => aLen_cons (fun _ _ _ => aLen_nil)))))) (sss_one (ss_ret (SE.le se_bl .vl))) sss_nil)) (sss_cons (ss_setM (sg_of (i := 5) (se_call rfl tk (ok_shown_with_rests T) (hr.mono (by decide : 3 ≤ 4)) (by rfl) T.g_shown_with_rests T.F_shown_with_rests.kp T.b_shown_with_rests (sa_cons (SE.le (se_ix rfl (se_vS 2 (pv 2) rfl) (SE.le se_int .vs) (fun _ _ => rfl)) .sb) (sa_cons (SE.le (se_ix rfl (se_vS 2 (pv 2) rfl) (SE.le se_int .vs) (fun _ _ => rfl)) .sb) sa_nil)) (fun _ _ _ => aLen_cons (fun _ _ _ => aLen_cons (fun _ _ _ => aLen_nil)))) sc__law_right.nd rfl (Or.inl rfl)) rfl)
  (sss_cons (ss_if (st_or2 (st_not (st_val (se_isi (T := "list") rfl (by decide) T.m_isinstance T.m_list (by decide +kernel) (se_vM 5 (pv 5) rfl)))) (st_ne rfl hr.units (se_vM 5 (pv 5) rfl) (se_vS 3 (pv 3) rfl))) (sss_one (ss_ret (SE.le se_bl .vl))) sss_nil)
  (sss_one (ss_app (i := 5) rfl (pv 5) rfl (SE.le se_str .vn))))))
  (sss_one (ss_if (st_ne rfl hr.units (se_vS 2 (pv 2) rfl) (se_lst (sa_cons (se_vS 0 (pv 0) rfl) (sa_cons (se_vS 1 (pv 1) rfl) sa_nil)))) (sss_one (ss_ret (SE.le se_bl .vl))) sss_nil))))
  (sss_one (ss_ret (SE.le se_bl .vl)))))))
theorem ok_law (T : Tp K mg) : FnOk P w K mg base CX0 6 T.f_law T.d_law ps_law (spLaw K F_law_k20) :=
  fn_law N_law 7 (cf_law K mg) B_law_k20 rfl T.F_law sc_law rfl rfl (fun cdv A outer s H E hr =>
  (sss_cons (ss_for PassesOwn.never rfl (si_list rfl (SE.le (se_add (se_slQ rfl (pv 0) rfl so_none (so_some se_int)) (se_lst (sa_cons (se_callQ rfl takes0N (ok__law_cell_at T) (hr.mono (by decide : 1 ≤ 5)) (by rfl) T.g__law_cell_at T.F__law_cell_at.kp T.b__law_cell_at rfl (pv 0) (sa_cons (SE.le se_int .vb) sa_nil) (aLen1 (fun _ _ _ => aLen_cons (fun _ _ _ => aLen_nil)))) sa_nil))) .vs)) (sgt_name (i := 1) (is := [1]) List.mem_cons_self rfl sc_law.nd rfl (Or.inl rfl)) (sss_cons (ss_setW (sg_of (i := 2) (se_call rfl takes0N (ok__law_deck T) (hr.mono (by decide : 1 ≤ 5)) (by rfl) T.g__law_deck T.F__law_deck.kp T.b__law_deck (sa_cons (SE.le (se_vS 1 (pv 1) rfl) .sb) sa_nil) (fun _ _ _ => aLen_cons (fun _ _ _ => aLen_nil))) sc_law.nd rfl (Or.inl rfl)) rfl (by decide))
  (sss_cons (ss_unp (SE.le (se_callW rfl takes0N (ok__law_pair T) (hr.mono (by decide : 4 ≤ 5)) (by rfl) T.g__law_pair T.F__law_pair.kp T.b__law_pair rfl (pv 2) (sa_cons (SE.le se_bl .vb) sa_nil) (aLen1 (fun _ _ _ => aLen_cons (fun _ _ _ => aLen_nil)))) .vs) (sgt_tup (is := [3, 4]) (js := [3, 4]) rfl rfl (sgts_cons (i := 3) (by decide) rfl sc_law.nd rfl (Or.inl rfl) (sgts_cons (i := 4) (by decide) rfl sc_law.nd rfl (Or.inl rfl) sgts_nil)) rfl))
  (sss_cons (ss_setS (sg_of (i := 5) (SE.le (se_callW rfl takes0N (ok__law_take T) (hr.mono (by decide : 1 ≤ 5)) (by rfl) T.g__law_take T.F__law_take.kp T.b__law_take rfl (pv 2) (sa_cons (SE.le (se_add (se_len rfl T.m_len (sa_cons (se_vS 4 (pv 4) rfl) sa_nil)) se_int) .vb) sa_nil) (aLen1 (fun _ _ _ => aLen_cons (fun _ _ _ => aLen_nil)))) .vs) sc_law.nd rfl (Or.inl rfl)) rfl)
  (sss_one (ss_for PassesOwn.never rfl (si_list rfl (se_lst (sa_cons (se_vS 4 (pv 4) rfl) (sa_cons (se_orT rfl (SE.nn (se_sl rfl (se_vS 4 (pv 4) rfl) (so_some (se_vS 5 (pv 5) rfl)) so_none)) (se_one (se_vS 4 (pv 4) rfl))) (sa_cons (se_add (se_vS 4 (pv 4) rfl) (se_sl rfl (se_vS 3 (pv 3) rfl) so_none (so_some se_int))) (sa_cons (se_rev rfl (se_vS 4 (pv 4) rfl)) (sa_cons (se_sl rfl (se_vS 3 (pv 3) rfl) (so_some (se_neg se_int)) so_none) sa_nil))))))) (sgt_name (i := 6) (is := [6]) List.mem_cons_self rfl sc_law.nd rfl (Or.inl rfl)) (sss_one (ss_if (st_or2 (st_not (st_val (se_call rfl takes0N (ok__law_right T) hr (by rfl) T.g__law_right T.F__law_right.kp T.b__law_right (sa_cons (SE.le (se_vS 3 (pv 3) rfl) .sb) (sa_cons (SE.le (se_sl rfl (se_vS 6 (pv 6) rfl) so_none (so_some se_int)) .sb) sa_nil)) (fun _ _ _ => aLen_cons (fun _ _ _ => aLen_cons (fun _ _ _ => aLen_nil)))))) (st_not (st_val (se_call rfl takes0N (ok__law_right T) hr (by rfl) T.g__law_right T.F__law_right.kp T.b__law_right (sa_cons (SE.le (se_sl rfl (se_vS 3 (pv 3) rfl) so_none (so_some se_int)) .sb) (sa_cons (SE.le (se_sl rfl (se_vS 6 (pv 6) rfl) so_none (so_some se_int)) .sb) sa_nil)) (fun _ _ _ => aLen_cons (fun _ _ _ => aLen_cons (fun _ _ _ => aLen_nil))))))) (sss_one (ss_ret (SE.le se_bl .vl))) sss_nil))))))))
  (sss_one (ss_ret (SE.le se_bl .vl)))))
end
theorem all_mk {l : PySem.W.OpenLaw} {w : World} {K : PySem.W.Frag} {h : Heap} {mg : Str → Option Value} {fa : Addr} {f0 f1 f2 f3 f4 f5 f6 f7 f8 f9 f10 f11 f12 f13 f14 f15 f16 f17 f18 f19 f20 f21 f22 f23 f24 f25 : Addr} {od0 an0 od1 an1 od2 an2 od3 an3 od4 an4 od5 an5 od6 an6 od7 an7 od8 an8 od9 an9 od10 an10 od11 an11 od12 an12 od13 an13 od14 an14 od15 an15 od16 an16 od17 an17 od18 an18 od19 an19 od20 an20 od21 an21 od22 an22 od23 an23 od24 an24 od25 an25 : Option Addr} {sl0 sl1 sl2 sl3 sl4 sl5 sl6 sl7 sl8 sl9 sl10 sl11 sl12 sl13 sl14 sl15 sl16 sl17 sl18 sl19 sl20 sl21 sl22 sl23 sl24 sl25 : Array (Option Value)} {oc0 kV0 dc0 pm0 cd0 ct0 oc1 kV1 dc1 pm1 cd1 ct1 oc2 kV2 dc2 pm2 cd2 ct2 oc3 kV3 dc3 pm3 cd3 ct3 oc4 kV4 dc4 pm4 cd4 ct4 oc5 kV5 dc5 pm5 cd5 ct5 oc6 kV6 dc6 pm6 cd6 ct6 oc7 kV7 dc7 pm7 cd7 ct7 oc8 kV8 dc8 pm8 cd8 ct8 oc9 kV9 dc9 pm9 cd9 ct9 oc10 kV10 dc10 pm10 cd10 ct10 oc11 kV11 dc11 pm11 cd11 ct11 oc12 kV12 dc12 pm12 cd12 ct12 oc13 kV13 dc13 pm13 cd13 ct13 oc14 kV14 dc14 pm14 cd14 ct14 oc15 kV15 dc15 pm15 cd15 ct15 oc16 kV16 dc16 pm16 cd16 ct16 oc17 kV17 dc17 pm17 cd17 ct17 oc18 kV18 dc18 pm18 cd18 ct18 oc19 kV19 dc19 pm19 cd19 ct19 oc20 kV20 dc20 pm20 cd20 ct20 oc21 kV21 dc21 pm21 cd21 ct21 oc22 kV22 dc22 pm22 cd22 ct22 oc23 kV23 dc23 pm23 cd23 ct23 oc24 kV24 dc24 pm24 cd24 ct24 oc25 kV25 dc25 pm25 cd25 ct25 : Value} {t0 : Tok} {cc0 cc1 cc2 cc3 cc4 cc5 cc6 cc7 cc8 cc9 : Addr} (X : K.In h) (G : h.Ns mainGlobals mg) (hfa : mg (Str.ofString "law") = some (.ref fa))
    (a0 : PySem.W.nsIn K mainGlobals (Str.ofString "need_word") = some (some (.ref f0))) (l0 : K.lookup f0 = some ⟨oc0, od0, .func (PySem.W.fnOf (Str.ofString "need_word") (Str.ofString "need_word") (defArgs s_need_word) (defBody s_need_word) (defScope s_need_word) .none kV0 dc0 pm0 an0 cd0 ct0), sl0⟩) (c0 : PySem.W.codeIn K cd0 (Str.ofString "need_word") = true) (k0 : PySem.W.keepIn K (.ref f0) = true)
    (a1 : PySem.W.nsIn K mainGlobals (Str.ofString "need_signs") = some (some (.ref f1))) (l1 : K.lookup f1 = some ⟨oc1, od1, .func (PySem.W.fnOf (Str.ofString "need_signs") (Str.ofString "need_signs") (defArgs s_need_signs) (defBody s_need_signs) (defScope s_need_signs) .none kV1 dc1 pm1 an1 cd1 ct1), sl1⟩) (c1 : PySem.W.codeIn K cd1 (Str.ofString "need_signs") = true) (k1 : PySem.W.keepIn K (.ref f1) = true)
    (a2 : PySem.W.nsIn K mainGlobals (Str.ofString "need_text") = some (some (.ref f2))) (l2 : K.lookup f2 = some ⟨oc2, od2, .func (PySem.W.fnOf (Str.ofString "need_text") (Str.ofString "need_text") (defArgs s_need_text) (defBody s_need_text) (defScope s_need_text) .none kV2 dc2 pm2 an2 cd2 ct2), sl2⟩) (c2 : PySem.W.codeIn K cd2 (Str.ofString "need_text") = true) (k2 : PySem.W.keepIn K (.ref f2) = true)
    (a3 : PySem.W.nsIn K mainGlobals (Str.ofString "laid_at") = some (some (.ref f3))) (l3 : K.lookup f3 = some ⟨oc3, od3, .func (PySem.W.fnOf (Str.ofString "laid_at") (Str.ofString "laid_at") (defArgs s_laid_at) (defBody s_laid_at) (defScope s_laid_at) .none kV3 dc3 pm3 an3 cd3 ct3), sl3⟩) (c3 : PySem.W.codeIn K cd3 (Str.ofString "laid_at") = true) (k3 : PySem.W.keepIn K (.ref f3) = true)
    (a4 : PySem.W.nsIn K mainGlobals (Str.ofString "hung_ahead") = some (some (.ref f4))) (l4 : K.lookup f4 = some ⟨oc4, od4, .func (PySem.W.fnOf (Str.ofString "hung_ahead") (Str.ofString "hung_ahead") (defArgs s_hung_ahead) (defBody s_hung_ahead) (defScope s_hung_ahead) .none kV4 dc4 pm4 an4 cd4 ct4), sl4⟩) (c4 : PySem.W.codeIn K cd4 (Str.ofString "hung_ahead") = true) (k4 : PySem.W.keepIn K (.ref f4) = true)
    (a5 : PySem.W.nsIn K mainGlobals (Str.ofString "hung_behind") = some (some (.ref f5))) (l5 : K.lookup f5 = some ⟨oc5, od5, .func (PySem.W.fnOf (Str.ofString "hung_behind") (Str.ofString "hung_behind") (defArgs s_hung_behind) (defBody s_hung_behind) (defScope s_hung_behind) .none kV5 dc5 pm5 an5 cd5 ct5), sl5⟩) (c5 : PySem.W.codeIn K cd5 (Str.ofString "hung_behind") = true) (k5 : PySem.W.keepIn K (.ref f5) = true)
    (a6 : PySem.W.nsIn K mainGlobals (Str.ofString "_law_cell_at") = some (some (.ref f6))) (l6 : K.lookup f6 = some ⟨oc6, od6, .func (PySem.W.fnOf (Str.ofString "_law_cell_at") (Str.ofString "_law_cell_at") (defArgs s__law_cell_at) (defBody s__law_cell_at) (defScope s__law_cell_at) .none kV6 dc6 pm6 an6 cd6 ct6), sl6⟩) (c6 : PySem.W.codeIn K cd6 (Str.ofString "_law_cell_at") = true) (k6 : PySem.W.keepIn K (.ref f6) = true)
    (a7 : PySem.W.nsIn K mainGlobals (Str.ofString "_law_deck") = some (some (.ref f7))) (l7 : K.lookup f7 = some ⟨oc7, od7, .func (PySem.W.fnOf (Str.ofString "_law_deck") (Str.ofString "_law_deck") (defArgs s__law_deck) (defBody s__law_deck) (defScope s__law_deck) .none kV7 dc7 pm7 an7 cd7 ct7), sl7⟩) (c7 : PySem.W.codeIn K cd7 (Str.ofString "_law_deck") = true) (k7 : PySem.W.keepIn K (.ref f7) = true)
    (a8 : PySem.W.nsIn K mainGlobals (Str.ofString "_law_take") = some (some (.ref f8))) (l8 : K.lookup f8 = some ⟨oc8, od8, .func (PySem.W.fnOf (Str.ofString "_law_take") (Str.ofString "_law_take") (defArgs s__law_take) (defBody s__law_take) (defScope s__law_take) .none kV8 dc8 pm8 an8 cd8 ct8), sl8⟩) (c8 : PySem.W.codeIn K cd8 (Str.ofString "_law_take") = true) (k8 : PySem.W.keepIn K (.ref f8) = true)
    (a9 : PySem.W.nsIn K mainGlobals (Str.ofString "_law_is_covered") = some (some (.ref f9))) (l9 : K.lookup f9 = some ⟨oc9, od9, .func (PySem.W.fnOf (Str.ofString "_law_is_covered") (Str.ofString "_law_is_covered") (defArgs s__law_is_covered) (defBody s__law_is_covered) (defScope s__law_is_covered) .none kV9 dc9 pm9 an9 cd9 ct9), sl9⟩) (c9 : PySem.W.codeIn K cd9 (Str.ofString "_law_is_covered") = true) (k9 : PySem.W.keepIn K (.ref f9) = true)
    (a10 : PySem.W.nsIn K mainGlobals (Str.ofString "_law_kind") = some (some (.ref f10))) (l10 : K.lookup f10 = some ⟨oc10, od10, .func (PySem.W.fnOf (Str.ofString "_law_kind") (Str.ofString "_law_kind") (defArgs s__law_kind) (defBody s__law_kind) (defScope s__law_kind) .none kV10 dc10 pm10 an10 cd10 ct10), sl10⟩) (c10 : PySem.W.codeIn K cd10 (Str.ofString "_law_kind") = true) (k10 : PySem.W.keepIn K (.ref f10) = true)
    (a11 : PySem.W.nsIn K mainGlobals (Str.ofString "_law_ends") = some (some (.ref f11))) (l11 : K.lookup f11 = some ⟨oc11, od11, .func (PySem.W.fnOf (Str.ofString "_law_ends") (Str.ofString "_law_ends") (defArgs s__law_ends) (defBody s__law_ends) (defScope s__law_ends) .none kV11 dc11 pm11 an11 cd11 ct11), sl11⟩) (c11 : PySem.W.codeIn K cd11 (Str.ofString "_law_ends") = true) (k11 : PySem.W.keepIn K (.ref f11) = true)
    (a12 : PySem.W.nsIn K mainGlobals (Str.ofString "need_both") = some (some (.ref f12))) (l12 : K.lookup f12 = some ⟨oc12, od12, .func (PySem.W.fnOf (Str.ofString "need_both") (Str.ofString "need_both") (defArgs s_need_both) (defBody s_need_both) (defScope s_need_both) .none kV12 dc12 pm12 an12 cd12 ct12), sl12⟩) (c12 : PySem.W.codeIn K cd12 (Str.ofString "need_both") = true) (k12 : PySem.W.keepIn K (.ref f12) = true)
    (a13 : PySem.W.nsIn K mainGlobals (Str.ofString "covers_amid") = some (some (.ref f13))) (l13 : K.lookup f13 = some ⟨oc13, od13, .func (PySem.W.fnOf (Str.ofString "covers_amid") (Str.ofString "covers_amid") (defArgs s_covers_amid) (defBody s_covers_amid) (defScope s_covers_amid) .none kV13 dc13 pm13 an13 cd13 ct13), sl13⟩) (c13 : PySem.W.codeIn K cd13 (Str.ofString "covers_amid") = true) (k13 : PySem.W.keepIn K (.ref f13) = true)
    (a14 : PySem.W.nsIn K mainGlobals (Str.ofString "is_within") = some (some (.ref f14))) (l14 : K.lookup f14 = some ⟨oc14, od14, .func (PySem.W.fnOf (Str.ofString "is_within") (Str.ofString "is_within") (defArgs s_is_within) (defBody s_is_within) (defScope s_is_within) .none kV14 dc14 pm14 an14 cd14 ct14), sl14⟩) (c14 : PySem.W.codeIn K cd14 (Str.ofString "is_within") = true) (k14 : PySem.W.keepIn K (.ref f14) = true)
    (a15 : PySem.W.nsIn K mainGlobals (Str.ofString "_law_letters") = some (some (.ref f15))) (l15 : K.lookup f15 = some ⟨oc15, od15, .func (PySem.W.fnOf (Str.ofString "_law_letters") (Str.ofString "_law_letters") (defArgs s__law_letters) (defBody s__law_letters) (defScope s__law_letters) .none kV15 dc15 pm15 an15 cd15 ct15), sl15⟩) (c15 : PySem.W.codeIn K cd15 (Str.ofString "_law_letters") = true) (k15 : PySem.W.keepIn K (.ref f15) = true)
    (a16 : PySem.W.nsIn K mainGlobals (Str.ofString "_law_signs") = some (some (.ref f16))) (l16 : K.lookup f16 = some ⟨oc16, od16, .func (PySem.W.fnOf (Str.ofString "_law_signs") (Str.ofString "_law_signs") (defArgs s__law_signs) (defBody s__law_signs) (defScope s__law_signs) .none kV16 dc16 pm16 an16 cd16 ct16), sl16⟩) (c16 : PySem.W.codeIn K cd16 (Str.ofString "_law_signs") = true) (k16 : PySem.W.keepIn K (.ref f16) = true)
    (a17 : PySem.W.nsIn K mainGlobals (Str.ofString "_law_due") = some (some (.ref f17))) (l17 : K.lookup f17 = some ⟨oc17, od17, .func (PySem.W.fnOf (Str.ofString "_law_due") (Str.ofString "_law_due") (defArgs s__law_due) (defBody s__law_due) (defScope s__law_due) .none kV17 dc17 pm17 an17 cd17 ct17), sl17⟩) (c17 : PySem.W.codeIn K cd17 (Str.ofString "_law_due") = true) (k17 : PySem.W.keepIn K (.ref f17) = true)
    (a18 : PySem.W.nsIn K mainGlobals (Str.ofString "shown_with_rests") = some (some (.ref f18))) (l18 : K.lookup f18 = some ⟨oc18, od18, .func (PySem.W.fnOf (Str.ofString "shown_with_rests") (Str.ofString "shown_with_rests") (defArgs s_shown_with_rests) (defBody s_shown_with_rests) (defScope s_shown_with_rests) .none kV18 dc18 pm18 an18 cd18 ct18), sl18⟩) (c18 : PySem.W.codeIn K cd18 (Str.ofString "shown_with_rests") = true) (k18 : PySem.W.keepIn K (.ref f18) = true)
    (a19 : PySem.W.nsIn K mainGlobals (Str.ofString "_law_word") = some (some (.ref f19))) (l19 : K.lookup f19 = some ⟨oc19, od19, .func (PySem.W.fnOf (Str.ofString "_law_word") (Str.ofString "_law_word") (defArgs s__law_word) (defBody s__law_word) (defScope s__law_word) .none kV19 dc19 pm19 an19 cd19 ct19), sl19⟩) (c19 : PySem.W.codeIn K cd19 (Str.ofString "_law_word") = true) (k19 : PySem.W.keepIn K (.ref f19) = true)
    (a20 : PySem.W.nsIn K mainGlobals (Str.ofString "_law_overlaid") = some (some (.ref f20))) (l20 : K.lookup f20 = some ⟨oc20, od20, .func (PySem.W.fnOf (Str.ofString "_law_overlaid") (Str.ofString "_law_overlaid") (defArgs s__law_overlaid) (defBody s__law_overlaid) (defScope s__law_overlaid) .none kV20 dc20 pm20 an20 cd20 ct20), sl20⟩) (c20 : PySem.W.codeIn K cd20 (Str.ofString "_law_overlaid") = true) (k20 : PySem.W.keepIn K (.ref f20) = true)
    (a21 : PySem.W.nsIn K mainGlobals (Str.ofString "_law_bent") = some (some (.ref f21))) (l21 : K.lookup f21 = some ⟨oc21, od21, .func (PySem.W.fnOf (Str.ofString "_law_bent") (Str.ofString "_law_bent") (defArgs s__law_bent) (defBody s__law_bent) (defScope s__law_bent) .none kV21 dc21 pm21 an21 cd21 ct21), sl21⟩) (c21 : PySem.W.codeIn K cd21 (Str.ofString "_law_bent") = true) (k21 : PySem.W.keepIn K (.ref f21) = true)
    (a22 : PySem.W.nsIn K mainGlobals (Str.ofString "_law_pair") = some (some (.ref f22))) (l22 : K.lookup f22 = some ⟨oc22, od22, .func (PySem.W.fnOf (Str.ofString "_law_pair") (Str.ofString "_law_pair") (defArgs s__law_pair) (defBody s__law_pair) (defScope s__law_pair) .none kV22 dc22 pm22 an22 cd22 ct22), sl22⟩) (c22 : PySem.W.codeIn K cd22 (Str.ofString "_law_pair") = true) (k22 : PySem.W.keepIn K (.ref f22) = true)
    (a23 : PySem.W.nsIn K mainGlobals (Str.ofString "_law_refused") = some (some (.ref f23))) (l23 : K.lookup f23 = some ⟨oc23, od23, .func (PySem.W.fnOf (Str.ofString "_law_refused") (Str.ofString "_law_refused") (defArgs s__law_refused) (defBody s__law_refused) (defScope s__law_refused) .none kV23 dc23 pm23 an23 cd23 ct23), sl23⟩) (c23 : PySem.W.codeIn K cd23 (Str.ofString "_law_refused") = true) (k23 : PySem.W.keepIn K (.ref f23) = true)
    (a24 : PySem.W.nsIn K mainGlobals (Str.ofString "_law_right") = some (some (.ref f24))) (l24 : K.lookup f24 = some ⟨oc24, od24, .func (PySem.W.fnOf (Str.ofString "_law_right") (Str.ofString "_law_right") (defArgs s__law_right) (defBody s__law_right) (defScope s__law_right) .none kV24 dc24 pm24 an24 cd24 ct24), sl24⟩) (c24 : PySem.W.codeIn K cd24 (Str.ofString "_law_right") = true) (k24 : PySem.W.keepIn K (.ref f24) = true)
    (a25 : PySem.W.nsIn K mainGlobals (Str.ofString "law") = some (some (.ref f25))) (l25 : K.lookup f25 = some ⟨oc25, od25, .func (PySem.W.fnOf (Str.ofString "law") (Str.ofString "law") (defArgs s_law) (defBody s_law) (defScope s_law) .none kV25 dc25 pm25 an25 cd25 ct25), sl25⟩) (c25 : PySem.W.codeIn K cd25 (Str.ofString "law") = true) (k25 : PySem.W.keepIn K (.ref f25) = true)
    (e0 : PySem.W.nsIn K mainGlobals (Str.ofString "LETTERS") = some (some (.str (Str.ofString "abcdefghijklmnopqrstuvwxyz") t0)))
    (z0 : PySem.W.nsIn K mainGlobals (Str.ofString "ValueError") = some none)
    (z1 : PySem.W.nsIn K mainGlobals (Str.ofString "isinstance") = some none)
    (z2 : PySem.W.nsIn K mainGlobals (Str.ofString "len") = some none)
    (z3 : PySem.W.nsIn K mainGlobals (Str.ofString "list") = some none)
    (z4 : PySem.W.nsIn K mainGlobals (Str.ofString "max") = some none)
    (z5 : PySem.W.nsIn K mainGlobals (Str.ofString "min") = some none)
    (z6 : PySem.W.nsIn K mainGlobals (Str.ofString "range") = some none)
    (z7 : PySem.W.nsIn K mainGlobals (Str.ofString "set") = some none)
    (z8 : PySem.W.nsIn K mainGlobals (Str.ofString "sorted") = some none)
    (xn0 : PySem.W.nsIn K mainGlobals (Str.ofString "CoverError") = some (some (.ref cc0)))
    (xx0 : PySem.W.excIn K cc0 [.type "ValueError", .type "Exception", .type "BaseException", .type "object"] "ValueError.__new__" = true)
    (xk0 : PySem.W.keepIn K (.ref cc0) = true)
    (xb0 : PySem.W.subIn K (.ref cc0) (.type "BaseException") = some true)
    (xt0 : PySem.W.typeIn K (.ref cc0) = some (.type "type"))
    (xd0 : PySem.W.hasDictIn K cc0 = true)
    (xs0 : PySem.W.subIn K (.ref cc0) (.ref cc0) = some true)
    (xn1 : PySem.W.nsIn K mainGlobals (Str.ofString "NoWord") = some (some (.ref cc1)))
    (xx1 : PySem.W.excIn K cc1 [.type "ValueError", .type "Exception", .type "BaseException", .type "object"] "ValueError.__new__" = true)
    (xk1 : PySem.W.keepIn K (.ref cc1) = true)
    (xb1 : PySem.W.subIn K (.ref cc1) (.type "BaseException") = some true)
    (xt1 : PySem.W.typeIn K (.ref cc1) = some (.type "type"))
    (xd1 : PySem.W.hasDictIn K cc1 = true)
    (xs1 : PySem.W.subIn K (.ref cc1) (.ref cc1) = some true)
    (xn2 : PySem.W.nsIn K mainGlobals (Str.ofString "NoSign") = some (some (.ref cc2)))
    (xx2 : PySem.W.excIn K cc2 [.type "ValueError", .type "Exception", .type "BaseException", .type "object"] "ValueError.__new__" = true)
    (xk2 : PySem.W.keepIn K (.ref cc2) = true)
    (xb2 : PySem.W.subIn K (.ref cc2) (.type "BaseException") = some true)
    (xt2 : PySem.W.typeIn K (.ref cc2) = some (.type "type"))
    (xd2 : PySem.W.hasDictIn K cc2 = true)
    (xs2 : PySem.W.subIn K (.ref cc2) (.ref cc2) = some true)
    (xn3 : PySem.W.nsIn K mainGlobals (Str.ofString "NoText") = some (some (.ref cc3)))
    (xx3 : PySem.W.excIn K cc3 [.type "ValueError", .type "Exception", .type "BaseException", .type "object"] "ValueError.__new__" = true)
    (xk3 : PySem.W.keepIn K (.ref cc3) = true)
    (xb3 : PySem.W.subIn K (.ref cc3) (.type "BaseException") = some true)
    (xt3 : PySem.W.typeIn K (.ref cc3) = some (.type "type"))
    (xd3 : PySem.W.hasDictIn K cc3 = true)
    (xs3 : PySem.W.subIn K (.ref cc3) (.ref cc3) = some true)
    (xn4 : PySem.W.nsIn K mainGlobals (Str.ofString "NoCover") = some (some (.ref cc4)))
    (xx4 : PySem.W.excIn K cc4 [.type "ValueError", .type "Exception", .type "BaseException", .type "object"] "ValueError.__new__" = true)
    (xk4 : PySem.W.keepIn K (.ref cc4) = true)
    (xb4 : PySem.W.subIn K (.ref cc4) (.type "BaseException") = some true)
    (xt4 : PySem.W.typeIn K (.ref cc4) = some (.type "type"))
    (xd4 : PySem.W.hasDictIn K cc4 = true)
    (xs4 : PySem.W.subIn K (.ref cc4) (.ref cc4) = some true)
    (xn5 : PySem.W.nsIn K mainGlobals (Str.ofString "NoNumber") = some (some (.ref cc5)))
    (xx5 : PySem.W.excIn K cc5 [.type "ValueError", .type "Exception", .type "BaseException", .type "object"] "ValueError.__new__" = true)
    (xk5 : PySem.W.keepIn K (.ref cc5) = true)
    (xb5 : PySem.W.subIn K (.ref cc5) (.type "BaseException") = some true)
    (xt5 : PySem.W.typeIn K (.ref cc5) = some (.type "type"))
    (xd5 : PySem.W.hasDictIn K cc5 = true)
    (xs5 : PySem.W.subIn K (.ref cc5) (.ref cc5) = some true)
    (xn6 : PySem.W.nsIn K mainGlobals (Str.ofString "NoChain") = some (some (.ref cc6)))
    (xx6 : PySem.W.excIn K cc6 [.type "ValueError", .type "Exception", .type "BaseException", .type "object"] "ValueError.__new__" = true)
    (xk6 : PySem.W.keepIn K (.ref cc6) = true)
    (xb6 : PySem.W.subIn K (.ref cc6) (.type "BaseException") = some true)
    (xt6 : PySem.W.typeIn K (.ref cc6) = some (.type "type"))
    (xd6 : PySem.W.hasDictIn K cc6 = true)
    (xs6 : PySem.W.subIn K (.ref cc6) (.ref cc6) = some true)
    (xn7 : PySem.W.nsIn K mainGlobals (Str.ofString "TooMany") = some (some (.ref cc7)))
    (xx7 : PySem.W.excIn K cc7 [.type "ValueError", .type "Exception", .type "BaseException", .type "object"] "ValueError.__new__" = true)
    (xk7 : PySem.W.keepIn K (.ref cc7) = true)
    (xb7 : PySem.W.subIn K (.ref cc7) (.type "BaseException") = some true)
    (xt7 : PySem.W.typeIn K (.ref cc7) = some (.type "type"))
    (xd7 : PySem.W.hasDictIn K cc7 = true)
    (xs7 : PySem.W.subIn K (.ref cc7) (.ref cc7) = some true)
    (xn8 : PySem.W.nsIn K mainGlobals (Str.ofString "NoForm") = some (some (.ref cc8)))
    (xx8 : PySem.W.excIn K cc8 [.type "ValueError", .type "Exception", .type "BaseException", .type "object"] "ValueError.__new__" = true)
    (xk8 : PySem.W.keepIn K (.ref cc8) = true)
    (xb8 : PySem.W.subIn K (.ref cc8) (.type "BaseException") = some true)
    (xt8 : PySem.W.typeIn K (.ref cc8) = some (.type "type"))
    (xd8 : PySem.W.hasDictIn K cc8 = true)
    (xs8 : PySem.W.subIn K (.ref cc8) (.ref cc8) = some true)
    (xn9 : PySem.W.nsIn K mainGlobals (Str.ofString "NoneYet") = some (some (.ref cc9)))
    (xx9 : PySem.W.excIn K cc9 [.type "ValueError", .type "Exception", .type "BaseException", .type "object"] "ValueError.__new__" = true)
    (xk9 : PySem.W.keepIn K (.ref cc9) = true)
    (xb9 : PySem.W.subIn K (.ref cc9) (.type "BaseException") = some true)
    (xt9 : PySem.W.typeIn K (.ref cc9) = some (.type "type"))
    (xd9 : PySem.W.hasDictIn K cc9 = true)
    (xs9 : PySem.W.subIn K (.ref cc9) (.ref cc9) = some true)
    (xg : PySem.W.specialIn K (.builtin "object.__class__") "__get__" = some (some (.builtin "getset_descriptor.__get__")))
    (xtk : PySem.W.takesIn K (.builtin "object.__class__") = some true)
    (xga1 : PySem.W.findIn K (.ref cc1) "__getattribute__" = some (some (.builtin "BaseException.__getattribute__")))
    (xgt1 : PySem.W.findIn K (.ref cc1) "__getattr__" = some none)
    (xcl1 : PySem.W.findIn K (.ref cc1) "__class__" = some (some (.builtin "object.__class__")))
    (xmo1 : PySem.W.mroIn K cc1 (.type "object") = some true)
    (xve1 : PySem.W.subIn K (.ref cc1) (.type "ValueError") = some true)
    (xp_NoWord_CoverError : PySem.W.subIn K (.ref cc1) (.ref cc0) = some true)
    (xp_NoWord_NoWord : PySem.W.subIn K (.ref cc1) (.ref cc1) = some true)
    (xp_NoWord_NoSign : PySem.W.subIn K (.ref cc1) (.ref cc2) = some false)
    (xp_NoWord_NoText : PySem.W.subIn K (.ref cc1) (.ref cc3) = some false)
    (xp_NoWord_NoCover : PySem.W.subIn K (.ref cc1) (.ref cc4) = some false)
    (xp_NoWord_NoNumber : PySem.W.subIn K (.ref cc1) (.ref cc5) = some false)
    (xp_NoWord_NoChain : PySem.W.subIn K (.ref cc1) (.ref cc6) = some false)
    (xp_NoWord_TooMany : PySem.W.subIn K (.ref cc1) (.ref cc7) = some false)
    (xp_NoWord_NoForm : PySem.W.subIn K (.ref cc1) (.ref cc8) = some false)
    (xp_NoWord_NoneYet : PySem.W.subIn K (.ref cc1) (.ref cc9) = some false)
    (xga2 : PySem.W.findIn K (.ref cc2) "__getattribute__" = some (some (.builtin "BaseException.__getattribute__")))
    (xgt2 : PySem.W.findIn K (.ref cc2) "__getattr__" = some none)
    (xcl2 : PySem.W.findIn K (.ref cc2) "__class__" = some (some (.builtin "object.__class__")))
    (xmo2 : PySem.W.mroIn K cc2 (.type "object") = some true)
    (xve2 : PySem.W.subIn K (.ref cc2) (.type "ValueError") = some true)
    (xp_NoSign_CoverError : PySem.W.subIn K (.ref cc2) (.ref cc0) = some true)
    (xp_NoSign_NoWord : PySem.W.subIn K (.ref cc2) (.ref cc1) = some false)
    (xp_NoSign_NoSign : PySem.W.subIn K (.ref cc2) (.ref cc2) = some true)
    (xp_NoSign_NoText : PySem.W.subIn K (.ref cc2) (.ref cc3) = some false)
    (xp_NoSign_NoCover : PySem.W.subIn K (.ref cc2) (.ref cc4) = some false)
    (xp_NoSign_NoNumber : PySem.W.subIn K (.ref cc2) (.ref cc5) = some false)
    (xp_NoSign_NoChain : PySem.W.subIn K (.ref cc2) (.ref cc6) = some false)
    (xp_NoSign_TooMany : PySem.W.subIn K (.ref cc2) (.ref cc7) = some false)
    (xp_NoSign_NoForm : PySem.W.subIn K (.ref cc2) (.ref cc8) = some false)
    (xp_NoSign_NoneYet : PySem.W.subIn K (.ref cc2) (.ref cc9) = some false)
    (xga3 : PySem.W.findIn K (.ref cc3) "__getattribute__" = some (some (.builtin "BaseException.__getattribute__")))
    (xgt3 : PySem.W.findIn K (.ref cc3) "__getattr__" = some none)
    (xcl3 : PySem.W.findIn K (.ref cc3) "__class__" = some (some (.builtin "object.__class__")))
    (xmo3 : PySem.W.mroIn K cc3 (.type "object") = some true)
    (xve3 : PySem.W.subIn K (.ref cc3) (.type "ValueError") = some true)
    (xp_NoText_CoverError : PySem.W.subIn K (.ref cc3) (.ref cc0) = some true)
    (xp_NoText_NoWord : PySem.W.subIn K (.ref cc3) (.ref cc1) = some false)
    (xp_NoText_NoSign : PySem.W.subIn K (.ref cc3) (.ref cc2) = some false)
    (xp_NoText_NoText : PySem.W.subIn K (.ref cc3) (.ref cc3) = some true)
    (xp_NoText_NoCover : PySem.W.subIn K (.ref cc3) (.ref cc4) = some false)
    (xp_NoText_NoNumber : PySem.W.subIn K (.ref cc3) (.ref cc5) = some false)
    (xp_NoText_NoChain : PySem.W.subIn K (.ref cc3) (.ref cc6) = some false)
    (xp_NoText_TooMany : PySem.W.subIn K (.ref cc3) (.ref cc7) = some false)
    (xp_NoText_NoForm : PySem.W.subIn K (.ref cc3) (.ref cc8) = some false)
    (xp_NoText_NoneYet : PySem.W.subIn K (.ref cc3) (.ref cc9) = some false)
    (xga4 : PySem.W.findIn K (.ref cc4) "__getattribute__" = some (some (.builtin "BaseException.__getattribute__")))
    (xgt4 : PySem.W.findIn K (.ref cc4) "__getattr__" = some none)
    (xcl4 : PySem.W.findIn K (.ref cc4) "__class__" = some (some (.builtin "object.__class__")))
    (xmo4 : PySem.W.mroIn K cc4 (.type "object") = some true)
    (xve4 : PySem.W.subIn K (.ref cc4) (.type "ValueError") = some true)
    (xp_NoCover_CoverError : PySem.W.subIn K (.ref cc4) (.ref cc0) = some true)
    (xp_NoCover_NoWord : PySem.W.subIn K (.ref cc4) (.ref cc1) = some false)
    (xp_NoCover_NoSign : PySem.W.subIn K (.ref cc4) (.ref cc2) = some false)
    (xp_NoCover_NoText : PySem.W.subIn K (.ref cc4) (.ref cc3) = some false)
    (xp_NoCover_NoCover : PySem.W.subIn K (.ref cc4) (.ref cc4) = some true)
    (xp_NoCover_NoNumber : PySem.W.subIn K (.ref cc4) (.ref cc5) = some false)
    (xp_NoCover_NoChain : PySem.W.subIn K (.ref cc4) (.ref cc6) = some false)
    (xp_NoCover_TooMany : PySem.W.subIn K (.ref cc4) (.ref cc7) = some false)
    (xp_NoCover_NoForm : PySem.W.subIn K (.ref cc4) (.ref cc8) = some false)
    (xp_NoCover_NoneYet : PySem.W.subIn K (.ref cc4) (.ref cc9) = some false) :
    ∃ fd : FuncData, (∀ (s : Shared) (v : Value), BindsTo s fd ⟨[v], []⟩ [(Str.ofString "script", v)]) ∧ ∀ base : Heap, K.In base → base.Ns mainGlobals mg → FnOk l.prog w K mg base CX0 6 fa fd [Str.ofString "script"] (spLaw K Ov.F_law_k20) := by
  have e := hfa.symm.trans (PySem.W.mg_of X G a25)
  cases e
  have F0 := fun_mk (st := s_need_word) l0 c0 k0
  have F1 := fun_mk (st := s_need_signs) l1 c1 k1
  have F2 := fun_mk (st := s_need_text) l2 c2 k2
  have F3 := fun_mk (st := s_laid_at) l3 c3 k3
  have F4 := fun_mk (st := s_hung_ahead) l4 c4 k4
  have F5 := fun_mk (st := s_hung_behind) l5 c5 k5
  have F6 := fun_mk (st := s__law_cell_at) l6 c6 k6
  have F7 := fun_mk (st := s__law_deck) l7 c7 k7
  have F8 := fun_mk (st := s__law_take) l8 c8 k8
  have F9 := fun_mk (st := s__law_is_covered) l9 c9 k9
  have F10 := fun_mk (st := s__law_kind) l10 c10 k10
  have F11 := fun_mk (st := s__law_ends) l11 c11 k11
  have F12 := fun_mk (st := s_need_both) l12 c12 k12
  have F13 := fun_mk (st := s_covers_amid) l13 c13 k13
  have F14 := fun_mk (st := s_is_within) l14 c14 k14
  have F15 := fun_mk (st := s__law_letters) l15 c15 k15
  have F16 := fun_mk (st := s__law_signs) l16 c16 k16
  have F17 := fun_mk (st := s__law_due) l17 c17 k17
  have F18 := fun_mk (st := s_shown_with_rests) l18 c18 k18
  have F19 := fun_mk (st := s__law_word) l19 c19 k19
  have F20 := fun_mk (st := s__law_overlaid) l20 c20 k20
  have F21 := fun_mk (st := s__law_bent) l21 c21 k21
  have F22 := fun_mk (st := s__law_pair) l22 c22 k22
  have F23 := fun_mk (st := s__law_refused) l23 c23 k23
  have F24 := fun_mk (st := s__law_right) l24 c24 k24
  have F25 := fun_mk (st := s_law) l25 c25 k25
  let T : Tp K mg := ⟨_, _, F0, PySem.W.mg_of X G a0, F0.binds (ps := ps_need_word) (fun _ _ _ _ _ _ us hl => match us, hl with | [_], _ => rfl),
    _, _, F1, PySem.W.mg_of X G a1, F1.binds (ps := ps_need_signs) (fun _ _ _ _ _ _ us hl => match us, hl with | [_], _ => rfl),
    _, _, F2, PySem.W.mg_of X G a2, F2.binds (ps := ps_need_text) (fun _ _ _ _ _ _ us hl => match us, hl with | [_], _ => rfl),
    _, _, F3, PySem.W.mg_of X G a3, F3.binds (ps := ps_laid_at) (fun _ _ _ _ _ _ us hl => match us, hl with | [_, _], _ => rfl),
    _, _, F4, PySem.W.mg_of X G a4, F4.binds (ps := ps_hung_ahead) (fun _ _ _ _ _ _ us hl => match us, hl with | [_, _], _ => rfl),
    _, _, F5, PySem.W.mg_of X G a5, F5.binds (ps := ps_hung_behind) (fun _ _ _ _ _ _ us hl => match us, hl with | [_, _], _ => rfl),
    _, _, F6, PySem.W.mg_of X G a6, F6.binds (ps := ps__law_cell_at) (fun _ _ _ _ _ _ us hl => match us, hl with | [_, _], _ => rfl),
    _, _, F7, PySem.W.mg_of X G a7, F7.binds (ps := ps__law_deck) (fun _ _ _ _ _ _ us hl => match us, hl with | [_], _ => rfl),
    _, _, F8, PySem.W.mg_of X G a8, F8.binds (ps := ps__law_take) (fun _ _ _ _ _ _ us hl => match us, hl with | [_, _], _ => rfl),
    _, _, F9, PySem.W.mg_of X G a9, F9.binds (ps := ps__law_is_covered) (fun _ _ _ _ _ _ us hl => match us, hl with | [_, _], _ => rfl),
    _, _, F10, PySem.W.mg_of X G a10, F10.binds (ps := ps__law_kind) (fun _ _ _ _ _ _ us hl => match us, hl with | [_], _ => rfl),
    _, _, F11, PySem.W.mg_of X G a11, F11.binds (ps := ps__law_ends) (fun _ _ _ _ _ _ us hl => match us, hl with | [_, _], _ => rfl),
    _, _, F12, PySem.W.mg_of X G a12, F12.binds (ps := ps_need_both) (fun _ _ _ _ _ _ us hl => match us, hl with | [_, _], _ => rfl),
    _, _, F13, PySem.W.mg_of X G a13, F13.binds (ps := ps_covers_amid) (fun _ _ _ _ _ _ us hl => match us, hl with | [_, _, _, _], _ => rfl),
    _, _, F14, PySem.W.mg_of X G a14, F14.binds (ps := ps_is_within) (fun _ _ _ _ _ _ us hl => match us, hl with | [_, _], _ => rfl),
    _, _, F15, PySem.W.mg_of X G a15, F15.binds (ps := ps__law_letters) (fun _ _ _ _ _ _ us hl => match us, hl with | [_], _ => rfl),
    _, _, F16, PySem.W.mg_of X G a16, F16.binds (ps := ps__law_signs) (fun _ _ _ _ _ _ us hl => match us, hl with | [_, _, _], _ => rfl),
    _, _, F17, PySem.W.mg_of X G a17, F17.binds (ps := ps__law_due) (fun _ _ _ _ _ _ us hl => match us, hl with | [_, _], _ => rfl),
    _, _, F18, PySem.W.mg_of X G a18, F18.binds (ps := ps_shown_with_rests) (fun _ _ _ _ _ _ us hl => match us, hl with | [_, _], _ => rfl),
    _, _, F19, PySem.W.mg_of X G a19, F19.binds (ps := ps__law_word) (fun _ _ _ _ _ _ us hl => match us, hl with | [_, _, _], _ => rfl),
    _, _, F20, PySem.W.mg_of X G a20, F20.binds (ps := ps__law_overlaid) (fun _ _ _ _ _ _ us hl => match us, hl with | [_, _, _, _], _ => rfl),
    _, _, F21, PySem.W.mg_of X G a21, F21.binds (ps := ps__law_bent) (fun _ _ _ _ _ _ us hl => match us, hl with | [_, _, _], _ => rfl),
    _, _, F22, PySem.W.mg_of X G a22, F22.binds (ps := ps__law_pair) (fun _ _ _ _ _ _ us hl => match us, hl with | [_, _], _ => rfl),
    _, _, F23, PySem.W.mg_of X G a23, F23.binds (ps := ps__law_refused) (fun _ _ _ _ _ _ us hl => match us, hl with | [_, _], _ => rfl),
    _, _, F24, PySem.W.mg_of X G a24, F24.binds (ps := ps__law_right) (fun _ _ _ _ _ _ us hl => match us, hl with | [_, _], _ => rfl),
    _, _, F25, PySem.W.mg_of X G a25, F25.binds (ps := ps_law) (fun _ _ _ _ _ _ us hl => match us, hl with | [_], _ => rfl),
    _, PySem.W.mg_of X G e0,
    PySem.W.mg_none_of X G z0,
    PySem.W.mg_none_of X G z1,
    PySem.W.mg_none_of X G z2,
    PySem.W.mg_none_of X G z3,
    PySem.W.mg_none_of X G z4,
    PySem.W.mg_none_of X G z5,
    PySem.W.mg_none_of X G z6,
    PySem.W.mg_none_of X G z7,
    PySem.W.mg_none_of X G z8,
    cc0, ⟨xn0, PySem.W.mg_of X G xn0, xx0, xk0, xb0, xt0, xd0, xs0⟩,
    cc1, ⟨xn1, PySem.W.mg_of X G xn1, xx1, xk1, xb1, xt1, xd1, xs1⟩,
    cc2, ⟨xn2, PySem.W.mg_of X G xn2, xx2, xk2, xb2, xt2, xd2, xs2⟩,
    cc3, ⟨xn3, PySem.W.mg_of X G xn3, xx3, xk3, xb3, xt3, xd3, xs3⟩,
    cc4, ⟨xn4, PySem.W.mg_of X G xn4, xx4, xk4, xb4, xt4, xd4, xs4⟩,
    cc5, ⟨xn5, PySem.W.mg_of X G xn5, xx5, xk5, xb5, xt5, xd5, xs5⟩,
    cc6, ⟨xn6, PySem.W.mg_of X G xn6, xx6, xk6, xb6, xt6, xd6, xs6⟩,
    cc7, ⟨xn7, PySem.W.mg_of X G xn7, xx7, xk7, xb7, xt7, xd7, xs7⟩,
    cc8, ⟨xn8, PySem.W.mg_of X G xn8, xx8, xk8, xb8, xt8, xd8, xs8⟩,
    cc9, ⟨xn9, PySem.W.mg_of X G xn9, xx9, xk9, xb9, xt9, xd9, xs9⟩,
    ⟨xga1, xgt1, xb1, xd1, xcl1, xg, xtk, xmo1⟩, xve1,
    xp_NoWord_CoverError,
    xp_NoWord_NoWord,
    xp_NoWord_NoSign,
    xp_NoWord_NoText,
    xp_NoWord_NoCover,
    xp_NoWord_NoNumber,
    xp_NoWord_NoChain,
    xp_NoWord_TooMany,
    xp_NoWord_NoForm,
    xp_NoWord_NoneYet,
    ⟨xga2, xgt2, xb2, xd2, xcl2, xg, xtk, xmo2⟩, xve2,
    xp_NoSign_CoverError,
    xp_NoSign_NoWord,
    xp_NoSign_NoSign,
    xp_NoSign_NoText,
    xp_NoSign_NoCover,
    xp_NoSign_NoNumber,
    xp_NoSign_NoChain,
    xp_NoSign_TooMany,
    xp_NoSign_NoForm,
    xp_NoSign_NoneYet,
    ⟨xga3, xgt3, xb3, xd3, xcl3, xg, xtk, xmo3⟩, xve3,
    xp_NoText_CoverError,
    xp_NoText_NoWord,
    xp_NoText_NoSign,
    xp_NoText_NoText,
    xp_NoText_NoCover,
    xp_NoText_NoNumber,
    xp_NoText_NoChain,
    xp_NoText_TooMany,
    xp_NoText_NoForm,
    xp_NoText_NoneYet,
    ⟨xga4, xgt4, xb4, xd4, xcl4, xg, xtk, xmo4⟩, xve4,
    xp_NoCover_CoverError,
    xp_NoCover_NoWord,
    xp_NoCover_NoSign,
    xp_NoCover_NoText,
    xp_NoCover_NoCover,
    xp_NoCover_NoNumber,
    xp_NoCover_NoChain,
    xp_NoCover_TooMany,
    xp_NoCover_NoForm,
    xp_NoCover_NoneYet⟩
  exact ⟨_, fun s v => .of_eq rfl, fun base _ _ => ok_law T⟩
end Lk20
open PySem PySem.W PyProof.Rows
set_option maxHeartbeats 0 in
theorem PySem.Challenge.cw_overlaid_k20_texts_that_show_it_holds : PySem.Challenge.rw_overlaid_k20_texts_that_show_it.Holds := by
  w_on; o_law; k_head; (case hw => w_witness2)
  k_fill
  refine L2.walk_of (l := PySem.Challenge.rw_overlaid_k20_texts_that_show_it) (n := 63) (k := 6) (x := "script") (CX := fun _ => L2.CX0) (sp := fun w => MV.spLaw _ Ov.F_law_k20) rfl (by decide) rfl ⟨rfl, by decide, by decide⟩ (fun w h Y => PySem.W.kIn_of Y) ?F (fun _ _ a ns hl _ hS => ⟨rfl, a, ns, rfl, hS, Ov.true_law_k20 ns hl, fun _ => rfl⟩) (fun _ _ _ _ _ h => h)
  case F =>
    intro w mg fa h KX G hmg
    refine' Lk20.all_mk KX G hmg ?a0 ?l0 ?c0 ?k0 ?a1 ?l1 ?c1 ?k1 ?a2 ?l2 ?c2 ?k2 ?a3 ?l3 ?c3 ?k3 ?a4 ?l4 ?c4 ?k4 ?a5 ?l5 ?c5 ?k5 ?a6 ?l6 ?c6 ?k6 ?a7 ?l7 ?c7 ?k7 ?a8 ?l8 ?c8 ?k8 ?a9 ?l9 ?c9 ?k9 ?a10 ?l10 ?c10 ?k10 ?a11 ?l11 ?c11 ?k11 ?a12 ?l12 ?c12 ?k12 ?a13 ?l13 ?c13 ?k13 ?a14 ?l14 ?c14 ?k14 ?a15 ?l15 ?c15 ?k15 ?a16 ?l16 ?c16 ?k16 ?a17 ?l17 ?c17 ?k17 ?a18 ?l18 ?c18 ?k18 ?a19 ?l19 ?c19 ?k19 ?a20 ?l20 ?c20 ?k20 ?a21 ?l21 ?c21 ?k21 ?a22 ?l22 ?c22 ?k22 ?a23 ?l23 ?c23 ?k23 ?a24 ?l24 ?c24 ?k24 ?a25 ?l25 ?c25 ?k25 ?e0 ?z0 ?z1 ?z2 ?z3 ?z4 ?z5 ?z6 ?z7 ?z8 ?xn0 ?xx0 ?xk0 ?xb0 ?xt0 ?xd0 ?xs0 ?xn1 ?xx1 ?xk1 ?xb1 ?xt1 ?xd1 ?xs1 ?xn2 ?xx2 ?xk2 ?xb2 ?xt2 ?xd2 ?xs2 ?xn3 ?xx3 ?xk3 ?xb3 ?xt3 ?xd3 ?xs3 ?xn4 ?xx4 ?xk4 ?xb4 ?xt4 ?xd4 ?xs4 ?xn5 ?xx5 ?xk5 ?xb5 ?xt5 ?xd5 ?xs5 ?xn6 ?xx6 ?xk6 ?xb6 ?xt6 ?xd6 ?xs6 ?xn7 ?xx7 ?xk7 ?xb7 ?xt7 ?xd7 ?xs7 ?xn8 ?xx8 ?xk8 ?xb8 ?xt8 ?xd8 ?xs8 ?xn9 ?xx9 ?xk9 ?xb9 ?xt9 ?xd9 ?xs9 ?xg ?xtk ?xga1 ?xgt1 ?xcl1 ?xmo1 ?xve1 ?xp_NoWord_CoverError ?xp_NoWord_NoWord ?xp_NoWord_NoSign ?xp_NoWord_NoText ?xp_NoWord_NoCover ?xp_NoWord_NoNumber ?xp_NoWord_NoChain ?xp_NoWord_TooMany ?xp_NoWord_NoForm ?xp_NoWord_NoneYet ?xga2 ?xgt2 ?xcl2 ?xmo2 ?xve2 ?xp_NoSign_CoverError ?xp_NoSign_NoWord ?xp_NoSign_NoSign ?xp_NoSign_NoText ?xp_NoSign_NoCover ?xp_NoSign_NoNumber ?xp_NoSign_NoChain ?xp_NoSign_TooMany ?xp_NoSign_NoForm ?xp_NoSign_NoneYet ?xga3 ?xgt3 ?xcl3 ?xmo3 ?xve3 ?xp_NoText_CoverError ?xp_NoText_NoWord ?xp_NoText_NoSign ?xp_NoText_NoText ?xp_NoText_NoCover ?xp_NoText_NoNumber ?xp_NoText_NoChain ?xp_NoText_TooMany ?xp_NoText_NoForm ?xp_NoText_NoneYet ?xga4 ?xgt4 ?xcl4 ?xmo4 ?xve4 ?xp_NoCover_CoverError ?xp_NoCover_NoWord ?xp_NoCover_NoSign ?xp_NoCover_NoText ?xp_NoCover_NoCover ?xp_NoCover_NoNumber ?xp_NoCover_NoChain ?xp_NoCover_TooMany ?xp_NoCover_NoForm ?xp_NoCover_NoneYet
    (case a0 => k_is); (case l0 => k_is); (case c0 => k_is); (case k0 => k_is); (case a1 => k_is); (case l1 => k_is); (case c1 => k_is); (case k1 => k_is); (case a2 => k_is); (case l2 => k_is); (case c2 => k_is); (case k2 => k_is); (case a3 => k_is); (case l3 => k_is); (case c3 => k_is); (case k3 => k_is); (case a4 => k_is); (case l4 => k_is); (case c4 => k_is); (case k4 => k_is); (case a5 => k_is); (case l5 => k_is); (case c5 => k_is); (case k5 => k_is); (case a6 => k_is); (case l6 => k_is); (case c6 => k_is); (case k6 => k_is); (case a7 => k_is); (case l7 => k_is); (case c7 => k_is); (case k7 => k_is); (case a8 => k_is); (case l8 => k_is); (case c8 => k_is); (case k8 => k_is); (case a9 => k_is); (case l9 => k_is); (case c9 => k_is); (case k9 => k_is); (case a10 => k_is); (case l10 => k_is); (case c10 => k_is); (case k10 => k_is); (case a11 => k_is); (case l11 => k_is); (case c11 => k_is); (case k11 => k_is); (case a12 => k_is); (case l12 => k_is); (case c12 => k_is); (case k12 => k_is); (case a13 => k_is); (case l13 => k_is); (case c13 => k_is); (case k13 => k_is); (case a14 => k_is); (case l14 => k_is); (case c14 => k_is); (case k14 => k_is); (case a15 => k_is); (case l15 => k_is); (case c15 => k_is); (case k15 => k_is); (case a16 => k_is); (case l16 => k_is); (case c16 => k_is); (case k16 => k_is); (case a17 => k_is); (case l17 => k_is); (case c17 => k_is); (case k17 => k_is); (case a18 => k_is); (case l18 => k_is); (case c18 => k_is); (case k18 => k_is); (case a19 => k_is); (case l19 => k_is); (case c19 => k_is); (case k19 => k_is); (case a20 => k_is); (case l20 => k_is); (case c20 => k_is); (case k20 => k_is); (case a21 => k_is); (case l21 => k_is); (case c21 => k_is); (case k21 => k_is); (case a22 => k_is); (case l22 => k_is); (case c22 => k_is); (case k22 => k_is); (case a23 => k_is); (case l23 => k_is); (case c23 => k_is); (case k23 => k_is); (case a24 => k_is); (case l24 => k_is); (case c24 => k_is); (case k24 => k_is); (case a25 => k_is); (case l25 => k_is); (case c25 => k_is); (case k25 => k_is); (case e0 => k_is); (case z0 => k_is); (case z1 => k_is); (case z2 => k_is); (case z3 => k_is); (case z4 => k_is); (case z5 => k_is); (case z6 => k_is); (case z7 => k_is); (case z8 => k_is); (case xn0 => k_is); (case xx0 => k_exc); (case xk0 => k_is); (case xb0 => k_is); (case xt0 => k_is); (case xd0 => k_is); (case xs0 => k_is); (case xn1 => k_is); (case xx1 => k_exc); (case xk1 => k_is); (case xb1 => k_is); (case xt1 => k_is); (case xd1 => k_is); (case xs1 => k_is); (case xn2 => k_is); (case xx2 => k_exc); (case xk2 => k_is); (case xb2 => k_is); (case xt2 => k_is); (case xd2 => k_is); (case xs2 => k_is); (case xn3 => k_is); (case xx3 => k_exc); (case xk3 => k_is); (case xb3 => k_is); (case xt3 => k_is); (case xd3 => k_is); (case xs3 => k_is); (case xn4 => k_is); (case xx4 => k_exc); (case xk4 => k_is); (case xb4 => k_is); (case xt4 => k_is); (case xd4 => k_is); (case xs4 => k_is); (case xn5 => k_is); (case xx5 => k_exc); (case xk5 => k_is); (case xb5 => k_is); (case xt5 => k_is); (case xd5 => k_is); (case xs5 => k_is); (case xn6 => k_is); (case xx6 => k_exc); (case xk6 => k_is); (case xb6 => k_is); (case xt6 => k_is); (case xd6 => k_is); (case xs6 => k_is); (case xn7 => k_is); (case xx7 => k_exc); (case xk7 => k_is); (case xb7 => k_is); (case xt7 => k_is); (case xd7 => k_is); (case xs7 => k_is); (case xn8 => k_is); (case xx8 => k_exc); (case xk8 => k_is); (case xb8 => k_is); (case xt8 => k_is); (case xd8 => k_is); (case xs8 => k_is); (case xn9 => k_is); (case xx9 => k_exc); (case xk9 => k_is); (case xb9 => k_is); (case xt9 => k_is); (case xd9 => k_is); (case xs9 => k_is); (case xg => k_is); (case xtk => k_is); (case xga1 => k_is); (case xgt1 => k_is); (case xcl1 => k_is); (case xmo1 => k_is); (case xve1 => k_is); (case xp_NoWord_CoverError => k_is); (case xp_NoWord_NoWord => k_is); (case xp_NoWord_NoSign => k_is); (case xp_NoWord_NoText => k_is); (case xp_NoWord_NoCover => k_is); (case xp_NoWord_NoNumber => k_is); (case xp_NoWord_NoChain => k_is); (case xp_NoWord_TooMany => k_is); (case xp_NoWord_NoForm => k_is); (case xp_NoWord_NoneYet => k_is); (case xga2 => k_is); (case xgt2 => k_is); (case xcl2 => k_is); (case xmo2 => k_is); (case xve2 => k_is); (case xp_NoSign_CoverError => k_is); (case xp_NoSign_NoWord => k_is); (case xp_NoSign_NoSign => k_is); (case xp_NoSign_NoText => k_is); (case xp_NoSign_NoCover => k_is); (case xp_NoSign_NoNumber => k_is); (case xp_NoSign_NoChain => k_is); (case xp_NoSign_TooMany => k_is); (case xp_NoSign_NoForm => k_is); (case xp_NoSign_NoneYet => k_is); (case xga3 => k_is); (case xgt3 => k_is); (case xcl3 => k_is); (case xmo3 => k_is); (case xve3 => k_is); (case xp_NoText_CoverError => k_is); (case xp_NoText_NoWord => k_is); (case xp_NoText_NoSign => k_is); (case xp_NoText_NoText => k_is); (case xp_NoText_NoCover => k_is); (case xp_NoText_NoNumber => k_is); (case xp_NoText_NoChain => k_is); (case xp_NoText_TooMany => k_is); (case xp_NoText_NoForm => k_is); (case xp_NoText_NoneYet => k_is); (case xga4 => k_is); (case xgt4 => k_is); (case xcl4 => k_is); (case xmo4 => k_is); (case xve4 => k_is); (case xp_NoCover_CoverError => k_is); (case xp_NoCover_NoWord => k_is); (case xp_NoCover_NoSign => k_is); (case xp_NoCover_NoText => k_is); (case xp_NoCover_NoCover => k_is); (case xp_NoCover_NoNumber => k_is); (case xp_NoCover_NoChain => k_is); (case xp_NoCover_TooMany => k_is); (case xp_NoCover_NoForm => k_is); (case xp_NoCover_NoneYet => k_is)

