import PyProof.Rows.All
import Wide.All
import OpenK.AllK
import Wide.FinOn
import HandS.ForMost
import HandS.ForExc
import HandS.ExcCtx
import HandS.HotCalls
import HandS.ExcIs
import HandS.ExcValue
import HandS.Style
import HandS.Wide
import HandS.Conv
import PyProof.ListStr
import HandS.Zip
import HandS.IsInst
import HandS.TryOnly
import HandS.Set
import HandS.SetFor
import HandS.SortInts
import HandS.More
import HandS.Dict
import HandS.Strs
import KE.DataMinMax
import KE.SortData
import HandS.SortKw
import HandS.Deep
import HandS.TupLe
import HandS.Replace
import KE.BitLaws
import KE.KDictWalk
import PyProof.SumAny
import PySem.Challenge.RW_overlaid_k15_whole_covers
set_option Elab.async false
set_option linter.all false
set_option maxRecDepth 100000
set_option maxHeartbeats 4000000
set_option autoImplicit false
namespace MV
open PySem L2
inductive D where
  | non
  | bl (b : Bool)
  | int (i : Int)
  | str (x : Str)
  | lst (xs : List D)
  | tup (xs : List D)
  | dic (kvs : List (Key × D))
  | dit (kvs : List (List Key × D))
  | exc (c : Str)
  deriving Inhabited
def D.toV : D → Option V
  | .non => some .non
  | .bl b => some (.bl b)
  | .int i => some (.int i)
  | .str x => some (.str x)
  | _ => none
def D.sc (d : D) : Bool := d.toV.isSome
def D.flat : D → Bool
  | .lst xs => xs.all D.sc
  | .tup xs => xs.all D.sc
  | d => d.sc
def Ex (H H' : Hp) : Prop := ∀ a o, H a = some o → H' a = some o
theorem Ex.refl (H : Hp) : Ex H H := fun _ _ h => h
theorem Ex.trans {H H1 H2 : Hp} (a : Ex H H1) (b : Ex H1 H2) : Ex H H2 := fun x o h => b x o (a x o h)
theorem Ex.new {H : Hp} {p : Addr} {o : HO} (h : H p = none) : Ex H (upd H p o) := fun a u e => by
  rw [upd_ne (ne_of_none e h)]; exact e
theorem Ex.dom {H H' : Hp} (e : Ex H H') {a : Addr} (h : H a ≠ none) : H' a ≠ none := by
  cases q : H a with
  | none => exact absurd q h
  | some o => rw [e a o q]; exact fun z => by cases z
theorem Ex.back {H H' : Hp} (e : Ex H H') {a : Addr} (h : H' a = none) : H a = none := by
  cases q : H a with
  | none => rfl
  | some o => rw [e a o q] at h; cases h
def nw (H H' : Hp) : Hp := fun a => match H a with | none => H' a | some _ => none
def grow (G H H' : Hp) : Hp := fun a => match H a with | none => H' a | some _ => G a
def rs (G B : Hp) : Hp := fun a => match B a with | none => G a | some _ => none
def rm (G : Hp) (w : List Addr) : Hp := fun a => if a ∈ w then none else G a
theorem grow_none {G H H' : Hp} {a : Addr} (h : H a = none) : grow G H H' a = H' a := by unfold grow; rw [h]
theorem grow_some {G H H' : Hp} {a : Addr} {o : HO} (h : H a = some o) : grow G H H' a = G a := by unfold grow; rw [h]
theorem rs_none {G B : Hp} {a : Addr} (h : B a = none) : rs G B a = G a := by unfold rs; rw [h]
theorem rs_some {G B : Hp} {a : Addr} {o : HO} (h : B a = some o) : rs G B a = none := by unfold rs; rw [h]
theorem nw_none {H H' : Hp} {a : Addr} (h : H a = none) : nw H H' a = H' a := by unfold nw; rw [h]
theorem nw_some {H H' : Hp} {a : Addr} {o : HO} (h : H a = some o) : nw H H' a = none := by unfold nw; rw [h]
theorem Ex.grow {G H H' : Hp} (e : Ex G H) (x : Ex H H') : Ex G (grow G H H') := fun a o h => by
  rw [grow_some (e a o h)]; exact h
theorem grow_sub {G H H' : Hp} (e : Ex G H) (x : Ex H H') : Ex (grow G H H') H' := fun a o h => by
  cases q : H a with
  | none => rw [grow_none q] at h; exact h
  | some u => rw [grow_some q] at h; exact x a o (e a o h)
theorem rs_sub (G B : Hp) : Ex (rs G B) G := fun a o h => by
  cases q : B a with
  | none => rw [rs_none q] at h; exact h
  | some u => rw [rs_some q] at h; cases h
theorem rs_mono {G G' B : Hp} (e : Ex G G') : Ex (rs G B) (rs G' B) := fun a o h => by
  cases q : B a with
  | none => rw [rs_none q] at h ⊢; exact e a o h
  | some u => rw [rs_some q] at h; cases h
theorem rm_sub (G : Hp) (w : List Addr) : Ex (rm G w) G := fun a o h => by
  unfold rm at h; split at h
  · cases h
  · exact h
def SqLx (K : PySem.W.Frag) : Bool → Hp → Addr → List V → Prop
  | true, G, a, xs => G a = some (.lst xs)
  | false, G, a, xs => SqL K G a xs
def SqTx (K : PySem.W.Frag) : Bool → Hp → Addr → List V → Prop
  | true, G, a, xs => G a = some (.tup xs)
  | false, G, a, xs => SqT K G a xs
def DqK : Bool → Hp → Addr → List (Key × V) → Prop
  | true, G, a, kvs => G a = some (.dK kvs)
  | false, G, a, kvs => ∃ o, G a = some (.frz o (.dK kvs))
def cvK (K : PySem.W.Frag) (c : Str) : Value := match PySem.W.nsIn K mainGlobals c with
  | some (some v) => v
  | _ => .none
def ExH (cls : Value) (a : Addr) : HO := .ext fun h => ∃ (oe : Obj) (vs : Array Value), h.get? a = some oe ∧ oe.cls = cls ∧ oe.dict = none ∧ oe.data = .fields vs
mutual
inductive Rp (K : PySem.W.Frag) (x : Bool) (G : Hp) : V → D → Prop
  | sc {v : V} {d : D} : d.toV = some v → Rp K x G v d
  | lst {a : Addr} {xs : List V} {ds : List D} : SqLx K x G a xs → RpL K x G xs ds → Rp K x G (.ref a) (.lst ds)
  | tup {a : Addr} {xs : List V} {ds : List D} : SqTx K x G a xs → RpL K x G xs ds → Rp K x G (.ref a) (.tup ds)
  | dic {a : Addr} {ks : List Key} {vs : List V} {ds : List D} : DqK x G a (ks.zip vs) → ks.length = vs.length → RpL K x G vs ds → Rp K x G (.ref a) (.dic (ks.zip ds))
  | dit {a : Addr} {ks : List (List Key)} {vs : List V} {ds : List D} : Rd G a (.dT (ks.zip vs)) → ks.length = vs.length → RpL K x G vs ds → Rp K x G (.ref a) (.dit (ks.zip ds))
  | exc {a : Addr} {c : Str} : G a = some (ExH (cvK K c) a) → Rp K x G (.ref a) (.exc c)
inductive RpL (K : PySem.W.Frag) (x : Bool) (G : Hp) : List V → List D → Prop
  | nil : RpL K x G [] []
  | cons {v : V} {vs : List V} {d : D} {ds : List D} : Rp K x G v d → RpL K x G vs ds → RpL K x G (v :: vs) (d :: ds)
end
theorem ex_sql {K : PySem.W.Frag} {H H' : Hp} {a : Addr} {xs : List V} (e : Ex H H') (h : SqL K H a xs) : SqL K H' a xs := by
  rcases h with (h | ⟨o, h⟩) | h
  · exact .inl (.inl (e _ _ h))
  · exact .inl (.inr ⟨o, e _ _ h⟩)
  · exact .inr h
theorem ex_sqt {K : PySem.W.Frag} {H H' : Hp} {a : Addr} {xs : List V} (e : Ex H H') (h : SqT K H a xs) : SqT K H' a xs := by
  rcases h with (h | ⟨o, h⟩) | h
  · exact .inl (.inl (e _ _ h))
  · exact .inl (.inr ⟨o, e _ _ h⟩)
  · exact .inr h
theorem SqLx.any {K : PySem.W.Frag} {H : Hp} {a : Addr} {xs : List V} {x : Bool} (h : SqLx K x H a xs) : SqL K H a xs := by
  cases x with
  | true => exact .inl (.inl h)
  | false => exact h
theorem SqTx.any {K : PySem.W.Frag} {H : Hp} {a : Addr} {xs : List V} {x : Bool} (h : SqTx K x H a xs) : SqT K H a xs := by
  cases x with
  | true => exact .inl (.inl h)
  | false => exact h
theorem SqLx.of {K : PySem.W.Frag} {H : Hp} {a : Addr} {xs : List V} {x : Bool} (h : H a = some (.lst xs)) : SqLx K x H a xs := by
  cases x with
  | true => exact h
  | false => exact .inl (.inl h)
theorem SqTx.of {K : PySem.W.Frag} {H : Hp} {a : Addr} {xs : List V} {x : Bool} (h : H a = some (.tup xs)) : SqTx K x H a xs := by
  cases x with
  | true => exact h
  | false => exact .inl (.inl h)
theorem ex_sqlx {K : PySem.W.Frag} {x y : Bool} {H H' : Hp} {a : Addr} {xs : List V} (e : Ex H H') (l : y = true → x = true) (h : SqLx K x H a xs) : SqLx K y H' a xs := by
  cases y with
  | true => rw [l rfl] at h; exact e _ _ h
  | false => exact ex_sql e h.any
theorem ex_sqtx {K : PySem.W.Frag} {x y : Bool} {H H' : Hp} {a : Addr} {xs : List V} (e : Ex H H') (l : y = true → x = true) (h : SqTx K x H a xs) : SqTx K y H' a xs := by
  cases y with
  | true => rw [l rfl] at h; exact e _ _ h
  | false => exact ex_sqt e h.any
theorem ex_dqk {x : Bool} {H H' : Hp} {a : Addr} {kvs : List (Key × V)} (e : Ex H H') (h : DqK x H a kvs) : DqK x H' a kvs := by
  cases x with
  | true => exact e _ _ h
  | false => obtain ⟨o, h⟩ := h; exact ⟨o, e _ _ h⟩
theorem rd_mono {H H' : Hp} {a : Addr} {u : HO} (e : Ex H H') (h : Rd H a u) : Rd H' a u := h.imp (e _ _) fun ⟨o, q⟩ => ⟨o, e _ _ q⟩
mutual
theorem Rp.to {K : PySem.W.Frag} {x : Bool} {G G' : Hp} (e : Ex G G') : ∀ {v : V} {d : D}, Rp K x G v d → Rp K x G' v d
  | _, _, .sc h => .sc h
  | _, _, .lst h r => .lst (ex_sqlx e id h) (RpL.to e r)
  | _, _, .tup h r => .tup (ex_sqtx e id h) (RpL.to e r)
  | _, _, .dic h n r => .dic (ex_dqk e h) n (RpL.to e r)
  | _, _, .dit h n r => .dit (rd_mono e h) n (RpL.to e r)
  | _, _, .exc h => .exc (e _ _ h)
theorem RpL.to {K : PySem.W.Frag} {x : Bool} {G G' : Hp} (e : Ex G G') : ∀ {vs : List V} {ds : List D}, RpL K x G vs ds → RpL K x G' vs ds
  | _, _, .nil => .nil
  | _, _, .cons h r => .cons (Rp.to e h) (RpL.to e r)
end
section
variable {K : PySem.W.Frag} {x : Bool} {G : Hp}
theorem Rp.mono {G' : Hp} (e : Ex G G') {v : V} {d : D} (h : Rp K x G v d) : Rp K x G' v d := h.to e
theorem RpL.mono {G' : Hp} (e : Ex G G') {v : List V} {d : List D} (h : RpL K x G v d) : RpL K x G' v d := h.to e
theorem RpL.length : ∀ {vs : List V} {ds : List D}, RpL K x G vs ds → vs.length = ds.length
  | _, _, .nil => rfl
  | _, _, .cons _ r => by rw [List.length_cons, List.length_cons, r.length]
theorem RpL.get : ∀ {vs : List V} {ds : List D} {i : Nat} {d : D}, RpL K x G vs ds → ds[i]? = some d → ∃ v, vs[i]? = some v ∧ Rp K x G v d
  | _, _, _, _, .nil, h => by simp at h
  | _, _, 0, _, .cons h _, e => by simp at e; subst e; exact ⟨_, rfl, h⟩
  | _, _, i + 1, d, .cons _ r, e => by
    obtain ⟨v, h1, h2⟩ := RpL.get (i := i) (d := d) r (by simpa using e)
    exact ⟨v, by simpa using h1, h2⟩
theorem RpL.getV : ∀ {vs : List V} {ds : List D} {i : Nat} {v : V}, RpL K x G vs ds → vs[i]? = some v → ∃ d, ds[i]? = some d ∧ Rp K x G v d
  | _, _, _, _, .nil, h => by simp at h
  | _, _, 0, _, .cons h _, e => by simp at e; subst e; exact ⟨_, rfl, h⟩
  | _, _, i + 1, d, .cons _ r, e => by
    obtain ⟨v, h1, h2⟩ := RpL.getV (i := i) (v := d) r (by simpa using e)
    exact ⟨v, by simpa using h1, h2⟩
theorem RpL.append : ∀ {vs ws : List V} {ds es : List D}, RpL K x G vs ds → RpL K x G ws es → RpL K x G (vs ++ ws) (ds ++ es)
  | _, _, _, _, .nil, h => h
  | _, _, _, _, .cons h r, h2 => .cons h (RpL.append r h2)
theorem RpL.take : ∀ {vs : List V} {ds : List D} (n : Nat), RpL K x G vs ds → RpL K x G (vs.take n) (ds.take n)
  | _, _, 0, _ => .nil
  | _, _, _ + 1, .nil => .nil
  | _, _, n + 1, .cons h r => .cons h (RpL.take n r)
theorem RpL.drop : ∀ {vs : List V} {ds : List D} (n : Nat), RpL K x G vs ds → RpL K x G (vs.drop n) (ds.drop n)
  | _, _, 0, r => r
  | _, _, _ + 1, .nil => .nil
  | _, _, n + 1, .cons _ r => RpL.drop n r
theorem RpL.rev {vs : List V} {ds : List D} (h : RpL K x G vs ds) : RpL K x G vs.reverse ds.reverse := by
  induction vs generalizing ds with
  | nil => cases h; exact .nil
  | cons v vs ih => cases h with | cons h r => rw [List.reverse_cons, List.reverse_cons]; exact (ih r).append (.cons h .nil)
theorem RpL.set : ∀ {vs : List V} {ds : List D} {v : V} {d : D} (i : Nat), RpL K x G vs ds → Rp K x G v d → RpL K x G (vs.set i v) (ds.set i d)
  | _, _, _, _, _, .nil, _ => .nil
  | _, _, _, _, 0, .cons _ t, r => .cons r t
  | _, _, _, _, i + 1, .cons q t, r => .cons q (RpL.set i t r)
theorem Rp.sc_any {v : V} {d : D} (h : Rp K x G v d) (hs : d.sc = true) (y : Bool) (G' : Hp) : Rp K y G' v d := by
  cases h with
  | sc h => exact .sc h
  | lst _ _ => cases hs
  | tup _ _ => cases hs
  | dic _ _ _ => cases hs
  | dit _ _ _ => cases hs
  | exc _ => cases hs
theorem Rp.toV {v : V} {d : D} (h : Rp K x G v d) (hs : d.sc = true) : d.toV = some v := by
  cases h with
  | sc h => exact h
  | lst _ _ => cases hs
  | tup _ _ => cases hs
  | dic _ _ _ => cases hs
  | dit _ _ _ => cases hs
  | exc _ => cases hs
theorem RpL.sc_any : ∀ {vs : List V} {ds : List D}, RpL K x G vs ds → ds.all D.sc = true → ∀ (y : Bool) (G' : Hp), RpL K y G' vs ds
  | _, _, .nil, _, _, _ => .nil
  | _, _, .cons h r, hs, y, G' => by
    rw [List.all_cons, Bool.and_eq_true] at hs
    exact .cons (h.sc_any hs.1 y G') (RpL.sc_any r hs.2 y G')
theorem Rp.int_inv {v : V} {i : Int} (h : Rp K x G v (.int i)) : v = .int i := by
  have := h.toV rfl; exact (Option.some.inj this).symm
theorem Rp.bl_inv {v : V} {b : Bool} (h : Rp K x G v (.bl b)) : v = .bl b := by
  have := h.toV rfl; exact (Option.some.inj this).symm
theorem Rp.str_inv {v : V} {z : Str} (h : Rp K x G v (.str z)) : v = .str z := by
  have := h.toV rfl; exact (Option.some.inj this).symm
theorem Rp.non_inv {v : V} (h : Rp K x G v .non) : v = .non := by
  have := h.toV rfl; exact (Option.some.inj this).symm
theorem Rp.lst_inv {v : V} {ds : List D} (h : Rp K x G v (.lst ds)) : ∃ a xs, v = .ref a ∧ SqLx K x G a xs ∧ RpL K x G xs ds := by
  cases h with
  | sc h => cases h
  | lst h r => exact ⟨_, _, rfl, h, r⟩
theorem Rp.tup_inv {v : V} {ds : List D} (h : Rp K x G v (.tup ds)) : ∃ a xs, v = .ref a ∧ SqTx K x G a xs ∧ RpL K x G xs ds := by
  cases h with
  | sc h => cases h
  | tup h r => exact ⟨_, _, rfl, h, r⟩
theorem Rp.int (i : Int) : Rp K x G (.int i) (.int i) := .sc rfl
theorem Rp.bl (b : Bool) : Rp K x G (.bl b) (.bl b) := .sc rfl
theorem Rp.str (z : Str) : Rp K x G (.str z) (.str z) := .sc rfl
theorem Rp.non : Rp K x G .non .non := .sc rfl
end
mutual
inductive Own (K : PySem.W.Frag) (Hn H : Hp) : List Addr → V → D → Prop
  | leaf {v : V} {d : D} : Rp K true Hn v d → Own K Hn H [] v d
  | lst {p : Addr} {F : List Addr} {xs : List V} {ds : List D} : H p = some (.lst xs) → OwnL K Hn H F xs ds → Own K Hn H (p :: F) (.ref p) (.lst ds)
  | tup {p : Addr} {F : List Addr} {xs : List V} {ds : List D} : H p = some (.tup xs) → OwnL K Hn H F xs ds → Own K Hn H (p :: F) (.ref p) (.tup ds)
  | dic {p : Addr} {F : List Addr} {ks : List Key} {vs : List V} {ds : List D} : H p = some (.dK (ks.zip vs)) → ks.length = vs.length → OwnL K Hn H F vs ds → Own K Hn H (p :: F) (.ref p) (.dic (ks.zip ds))
  | dit {p : Addr} {F : List Addr} {ks : List (List Key)} {vs : List V} {ds : List D} : H p = some (.dT (ks.zip vs)) → ks.length = vs.length → OwnL K Hn H F vs ds → Own K Hn H (p :: F) (.ref p) (.dit (ks.zip ds))
inductive OwnL (K : PySem.W.Frag) (Hn H : Hp) : List Addr → List V → List D → Prop
  | nil : OwnL K Hn H [] [] []
  | cons {F F' : List Addr} {v : V} {vs : List V} {d : D} {ds : List D} : Own K Hn H F v d → OwnL K Hn H F' vs ds → OwnL K Hn H (F ++ F') (v :: vs) (d :: ds)
end
section
variable {K : PySem.W.Frag} {Hn Hn' H H' : Hp}
mutual
theorem Own.keep (en : Ex Hn Hn') : ∀ {F : List Addr} {v : V} {d : D}, Own K Hn H F v d → (∀ a ∈ F, ∀ o, H a = some o → H' a = some o) → Own K Hn' H' F v d
  | _, _, _, .leaf h, _ => .leaf (h.mono en)
  | _, _, _, .lst h r, e => .lst (e _ List.mem_cons_self _ h) (OwnL.keep en r fun a m => e a (List.mem_cons_of_mem _ m))
  | _, _, _, .tup h r, e => .tup (e _ List.mem_cons_self _ h) (OwnL.keep en r fun a m => e a (List.mem_cons_of_mem _ m))
  | _, _, _, .dic h l r, e => .dic (e _ List.mem_cons_self _ h) l (OwnL.keep en r fun a m => e a (List.mem_cons_of_mem _ m))
  | _, _, _, .dit h l r, e => .dit (e _ List.mem_cons_self _ h) l (OwnL.keep en r fun a m => e a (List.mem_cons_of_mem _ m))
theorem OwnL.keep (en : Ex Hn Hn') : ∀ {F : List Addr} {vs : List V} {ds : List D}, OwnL K Hn H F vs ds → (∀ a ∈ F, ∀ o, H a = some o → H' a = some o) → OwnL K Hn' H' F vs ds
  | _, _, _, .nil, _ => .nil
  | _, _, _, .cons h r, e => .cons (Own.keep en h fun a m => e a (List.mem_append_left _ m)) (OwnL.keep en r fun a m => e a (List.mem_append_right _ m))
end
theorem Own.mono (en : Ex Hn Hn') (e : Ex H H') {F : List Addr} {v : V} {d : D} (h : Own K Hn H F v d) : Own K Hn' H' F v d := h.keep en fun a _ o q => e a o q
mutual
theorem Own.dom : ∀ {F : List Addr} {v : V} {d : D}, Own K Hn H F v d → ∀ a ∈ F, H a ≠ none
  | _, _, _, .leaf _, a, m => by cases m
  | _, _, _, .lst h r, a, m => by
    rcases List.mem_cons.mp m with rfl | m
    · rw [h]; exact fun z => by cases z
    · exact OwnL.dom r a m
  | _, _, _, .tup h r, a, m => by
    rcases List.mem_cons.mp m with rfl | m
    · rw [h]; exact fun z => by cases z
    · exact OwnL.dom r a m
  | _, _, _, .dic h l r, a, m => by
    rcases List.mem_cons.mp m with rfl | m
    · rw [h]; exact fun z => by cases z
    · exact OwnL.dom r a m
  | _, _, _, .dit h l r, a, m => by
    rcases List.mem_cons.mp m with rfl | m
    · rw [h]; exact fun z => by cases z
    · exact OwnL.dom r a m
theorem OwnL.dom : ∀ {F : List Addr} {vs : List V} {ds : List D}, OwnL K Hn H F vs ds → ∀ a ∈ F, H a ≠ none
  | _, _, _, .nil, a, m => by cases m
  | _, _, _, .cons h r, a, m => by
    rcases List.mem_append.mp m with m | m
    · exact Own.dom h a m
    · exact OwnL.dom r a m
end
mutual
/-- what is owned is read, in any heap that holds its objects -/
theorem Own.rp {G : Hp} (en : Ex Hn G) : ∀ {F : List Addr} {v : V} {d : D}, Own K Hn H F v d → (∀ a ∈ F, ∀ o, H a = some o → G a = some o) → Rp K true G v d
  | _, _, _, .leaf h, _ => h.mono en
  | _, _, _, .lst h r, e => .lst (e _ List.mem_cons_self _ h) (OwnL.rp en r fun a m => e a (List.mem_cons_of_mem _ m))
  | _, _, _, .tup h r, e => .tup (e _ List.mem_cons_self _ h) (OwnL.rp en r fun a m => e a (List.mem_cons_of_mem _ m))
  | _, _, _, .dic h l r, e => .dic (e _ List.mem_cons_self _ h) l (OwnL.rp en r fun a m => e a (List.mem_cons_of_mem _ m))
  | _, _, _, .dit h l r, e => .dit (.inl (e _ List.mem_cons_self _ h)) l (OwnL.rp en r fun a m => e a (List.mem_cons_of_mem _ m))
theorem OwnL.rp {G : Hp} (en : Ex Hn G) : ∀ {F : List Addr} {vs : List V} {ds : List D}, OwnL K Hn H F vs ds → (∀ a ∈ F, ∀ o, H a = some o → G a = some o) → RpL K true G vs ds
  | _, _, _, .nil, _ => .nil
  | _, _, _, .cons h r, e => .cons (Own.rp en h fun a m => e a (List.mem_append_left _ m)) (OwnL.rp en r fun a m => e a (List.mem_append_right _ m))
end
theorem ownL_of : ∀ {vs : List V} {ds : List D}, RpL K true Hn vs ds → OwnL K Hn H [] vs ds
  | _, _, .nil => .nil
  | _, _, .cons h r => OwnL.cons (F := []) (.leaf h) (ownL_of r)
theorem OwnL.leafs : ∀ {F : List Addr} {vs : List V} {ds : List D}, OwnL K Hn H F vs ds → F = [] → RpL K true Hn vs ds
  | _, _, _, .nil, _ => .nil
  | _, _, _, .cons (F := F1) h r, e => by
    obtain ⟨e1, e2⟩ := List.append_eq_nil_iff.mp e
    subst e1
    cases h with
    | leaf h => exact .cons h (OwnL.leafs r e2)
end
end MV
namespace MV
open PySem L2
abbrev PEnv := List (Option D)
inductive Res (α : Type) where
  | ok (a : α) (e : PEnv)
  | ex (c : Str) (e : PEnv)
  | stuck
abbrev M (α : Type) := PEnv → Res α
def bnd {α β : Type} (m : M α) (k : α → M β) : M β := fun e => match m e with
  | .ok a e' => k a e'
  | .ex c e' => .ex c e'
  | .stuck => .stuck
def ret {α : Type} (a : α) : M α := fun e => .ok a e
def lift {α : Type} (o : Option α) : M α := fun e => match o with
  | some a => .ok a e
  | none => .stuck
def fail {α : Type} : M α := fun _ => .stuck
inductive FR where
  | ok (d : D) (io : D)
  | ex (c : Str) (io : D)
  | stuck
inductive Fl where
  | nx
  | rt (d : D)
  | bk
  | ct
def envOf (n : Nat) (ds : List D) : PEnv := ds.map some ++ List.replicate (n - ds.length) none
def ioOf (e : PEnv) : D := match e with
  | some d :: _ => d
  | _ => .non
def runF (n : Nat) (g : M Fl) : List D → FR := fun ds => match g (envOf n ds) with
  | .ok (.rt d) e => .ok d (ioOf e)
  | .ok .nx e => .ok .non (ioOf e)
  | .ex c e => .ex c (ioOf e)
  | _ => .stuck
inductive Kd where
  | S | N | M | W | Q | P
  deriving DecidableEq
structure Cf where
  K : PySem.W.Frag
  kd : Nat → Kd
  cv : Str → Value
structure Rs where
  H0 : Hp
  io : Option Addr
def emp : Hp := fun _ => none
def TH (G : Hp) : Hp := fun a => match G a with
  | some (.tup xs) => some (.tup xs)
  | _ => none
theorem th_some {G : Hp} {a : Addr} {o : HO} (h : TH G a = some o) : ∃ xs, o = .tup xs ∧ G a = some (.tup xs) := by
  unfold TH at h
  split at h
  · rename_i xs q; cases h; exact ⟨xs, rfl, q⟩
  · cases h
theorem th_tup {G : Hp} {a : Addr} {xs : List V} (h : G a = some (.tup xs)) : TH G a = some (.tup xs) := by unfold TH; rw [h]
theorem th_mono {G G' : Hp} (e : Ex G G') : Ex (TH G) (TH G') := fun a o h => by
  obtain ⟨xs, rfl, q⟩ := th_some h
  exact th_tup (e _ _ q)
theorem th_sub {G : Hp} : Ex (TH G) G := fun a o h => by
  obtain ⟨xs, rfl, q⟩ := th_some h
  exact q
def SlotR (K : PySem.W.Frag) (R : Rs) (Hs H : Hp) (F : List Addr) : Kd → V → D → Prop
  | .Q, v, d => Rp K false Hs v d
  | .S, v, d => Rp K true Hs v d
  | .P, v, d => Own K (TH (rs Hs R.H0)) H F v d
  | .N, v, d => Rp K true (rs Hs R.H0) v d
  | .M, v, d => Own K (rs Hs R.H0) H F v d ∧ (F = [] → d.sc = true) ∧ F.length ≤ 1
  | .W, v, d => ∃ p xs ds, v = .ref p ∧ d = .lst ds ∧ F = [p] ∧ H p = some (.lst xs) ∧ ds.all D.sc = true ∧ RpL K true emp xs ds
structure Rel (cf : Cf) (R : Rs) (Hs : Hp) (env : PEnv) (σ : L2.St) (H : Hp) (F : Nat → List Addr) (wf : List Addr) : Prop where
  len : env.length = σ.length
  exs : Ex Hs H
  ex0 : ∀ a o, R.H0 a = some o → R.io ≠ some a → Hs a = some o
  dom0 : ∀ a, R.H0 a ≠ none → H a ≠ none
  slot : ∀ i d, env[i]? = some (some d) → ∃ v, σ[i]? = some (some v) ∧ SlotR cf.K R Hs H (F i) (cf.kd i) v d
  nod : ∀ i, (F i).Nodup
  dis : ∀ i j, i ≠ j → ∀ a, a ∈ F i → a ∉ F j
  fdom : ∀ i a, a ∈ F i → H a ≠ none
  uns : ∀ i a, a ∈ F i → Hs a = none
  new : ∀ i a, a ∈ F i → R.io = some a ∨ R.H0 a = none
  volw : ∀ i, cf.kd i = .W → ∀ a, a ∈ F i → a ∈ wf
  volb : ∀ i, cf.kd i ≠ .W → ∀ a, a ∈ F i → a ∉ wf
  wdom : ∀ a, a ∈ wf → H a ≠ none ∧ Hs a = none
  ior : ∀ p, R.io = some p → σ[0]? = some (some (.ref p)) ∧ F 0 = [p] ∧ cf.kd 0 = .W ∧ ∃ d, env[0]? = some (some d)
inductive Cls where
  | V | N | S | L | B
def rg (c : Cls) (H0 Hs Hst H : Hp) (wf : List Addr) : Hp := match c with
  | .V => rs Hs Hst
  | .N => rs Hs H0
  | .S => Hs
  | .L => rs (rm H wf) H0
  | .B => rm H wf
structure Stp (cf : Cf) (wf : List Addr) (env : PEnv) (Hs H : Hp) (env' : PEnv) (Hs' H' : Hp) : Prop where
  dom : ∀ a, H a ≠ none → H' a ≠ none
  ex : Ex Hs Hs'
  keep : ∀ a o, a ∉ wf → H a = some o → H' a = some o
  same : ∀ a, H a ≠ none → Hs' a = Hs a
  kp : ∀ i, cf.kd i ≠ .W → env'[i]? = env[i]?
section
variable {cf : Cf} {wf : List Addr} {env env1 env2 : PEnv} {Hs H Hs1 H1 Hs2 H2 H' : Hp}
theorem Stp.refl : Stp cf wf env Hs H env Hs H := ⟨fun _ h => h, Ex.refl _, fun _ _ _ h => h, fun _ _ => rfl, fun _ _ => rfl⟩
theorem Stp.trans (a : Stp cf wf env Hs H env1 Hs1 H1) (b : Stp cf wf env1 Hs1 H1 env2 Hs2 H2) : Stp cf wf env Hs H env2 Hs2 H2 :=
  ⟨fun x h => b.dom x (a.dom x h), a.ex.trans b.ex, fun x o hw h => b.keep x o hw (a.keep x o hw h), fun x h => (b.same x (a.dom x h)).trans (a.same x h), fun i h => (b.kp i h).trans (a.kp i h)⟩
theorem Stp.grow (e : Ex Hs H) (x : Ex H H') : Stp cf wf env Hs H env (grow Hs H H') H' :=
  ⟨fun a h => x.dom h, Ex.grow e x, fun a o _ h => x a o h, fun a h => by
    cases q : H a with
    | none => exact absurd q h
    | some o => exact grow_some q, fun _ _ => rfl⟩
end
theorem rg_step {c : Cls} {H0 Hs Hst H Hs' H' : Hp} {wf : List Addr} {cf : Cf} {env env' : PEnv} (s : Stp cf wf env Hs H env' Hs' H') : Ex (rg c H0 Hs Hst H wf) (rg c H0 Hs' Hst H' wf) := by
  have hb : Ex (rm H wf) (rm H' wf) := fun a o h => by
    unfold rm at h ⊢
    split at h
    · cases h
    · rename_i hw; rw [if_neg hw]; exact s.keep a o hw h
  cases c with
  | V => exact rs_mono s.ex
  | N => exact rs_mono s.ex
  | S => exact s.ex
  | L => exact rs_mono hb
  | B => exact hb
theorem rg_start {c : Cls} {H0 Hs Hst Hst' H : Hp} {wf : List Addr} (d : ∀ a, Hst a ≠ none → Hst' a ≠ none) : Ex (rg c H0 Hs Hst' H wf) (rg c H0 Hs Hst H wf) := by
  cases c with
  | V =>
    intro a o h
    have h : rs Hs Hst' a = some o := h
    show rs Hs Hst a = some o
    cases q : Hst a with
    | none =>
      rw [rs_none q]
      exact rs_sub _ _ a o h
    | some u =>
      have : Hst' a ≠ none := d a (by rw [q]; exact fun z => by cases z)
      cases q' : Hst' a with
      | none => exact absurd q' this
      | some u' => rw [rs_some q'] at h; cases h
  | N => exact Ex.refl _
  | S => exact Ex.refl _
  | L => exact Ex.refl _
  | B => exact Ex.refl _
theorem rg_sub {c : Cls} {H0 Hs Hst H : Hp} {wf : List Addr} (e : Ex Hs H) : Ex (rg c H0 Hs Hst H wf) H := by
  cases c with
  | V => exact (rs_sub _ _).trans e
  | N => exact (rs_sub _ _).trans e
  | S => exact e
  | L => exact (rs_sub _ _).trans (rm_sub _ _)
  | B => exact rm_sub _ _
theorem rg_grow {c : Cls} {H0 Hs Hst H H' : Hp} {wf : List Addr} (d0 : ∀ a, H0 a ≠ none → H a ≠ none) (ds : ∀ a, Hst a ≠ none → H a ≠ none) (dw : ∀ a, a ∈ wf → H a ≠ none) (es : Ex Hs H) (x : Ex H H') :
    Ex (grow (rg c H0 Hs Hst H wf) H H') (rg c H0 (grow Hs H H') Hst H' wf) := by
  intro a o h
  cases q : H a with
  | none =>
    rw [grow_none q] at h
    have h0 : H0 a = none := by
      cases z : H0 a with
      | none => rfl
      | some u => exact absurd q (d0 a (by rw [z]; exact fun y => by cases y))
    have hs : Hst a = none := by
      cases z : Hst a with
      | none => rfl
      | some u => exact absurd q (ds a (by rw [z]; exact fun y => by cases y))
    have hw : a ∉ wf := fun m => dw a m q
    cases c with
    | V => show rs (grow Hs H H') Hst a = some o; rw [rs_none hs, grow_none q]; exact h
    | N => show rs (grow Hs H H') H0 a = some o; rw [rs_none h0, grow_none q]; exact h
    | S => show grow Hs H H' a = some o; rw [grow_none q]; exact h
    | L => show rs (rm H' wf) H0 a = some o; rw [rs_none h0]; unfold rm; rw [if_neg hw]; exact h
    | B => show rm H' wf a = some o; unfold rm; rw [if_neg hw]; exact h
  | some u =>
    rw [grow_some q] at h
    exact rg_step (cf := ⟨default, fun _ => .S, fun _ => .none⟩) (env := []) (Stp.grow es x) a o h
inductive Cls.Le : Cls → Cls → Prop
  | rfl (c) : Cls.Le c c
  | vn : Cls.Le .V .N
  | vs : Cls.Le .V .S
  | vl : Cls.Le .V .L
  | vb : Cls.Le .V .B
  | ns : Cls.Le .N .S
  | nl : Cls.Le .N .L
  | nb : Cls.Le .N .B
  | sb : Cls.Le .S .B
  | lb : Cls.Le .L .B
theorem rg_le {c c' : Cls} (l : Cls.Le c c') {H0 Hs Hst H : Hp} {wf : List Addr} (es : Ex Hs H) (d0 : ∀ a, H0 a ≠ none → Hst a ≠ none) (w : ∀ a, a ∈ wf → Hs a = none) : Ex (rg c H0 Hs Hst H wf) (rg c' H0 Hs Hst H wf) := by
  have sb : Ex Hs (rm H wf) := fun a o h => by
    unfold rm
    rw [if_neg (fun m => by rw [w a m] at h; cases h)]
    exact es a o h
  have vn : Ex (rs Hs Hst) (rs Hs H0) := fun a o h => by
    cases q : H0 a with
    | none => rw [rs_none q]; exact rs_sub _ _ a o h
    | some u =>
      have : Hst a ≠ none := d0 a (by rw [q]; exact fun y => by cases y)
      cases q' : Hst a with
      | none => exact absurd q' this
      | some u' => rw [rs_some q'] at h; cases h
  have nl : Ex (rs Hs H0) (rs (rm H wf) H0) := rs_mono sb
  cases l with
  | rfl => exact Ex.refl _
  | vn => exact vn
  | vs => exact vn.trans (rs_sub _ _)
  | vl => exact vn.trans nl
  | vb => exact (vn.trans nl).trans (rs_sub _ _)
  | ns => exact rs_sub _ _
  | nl => exact nl
  | nb => exact nl.trans (rs_sub _ _)
  | sb => exact sb
  | lb => exact rs_sub _ _
section
variable {cf : Cf} {R : Rs} {Hs H H' : Hp} {env : PEnv} {σ : L2.St} {F : Nat → List Addr} {wf : List Addr}
theorem Rel.grow (r : Rel cf R Hs env σ H F wf) (x : Ex H H') : Rel cf R (grow Hs H H') env σ H' F wf where
  len := r.len
  exs := grow_sub r.exs x
  ex0 := fun a o h n => (Ex.grow r.exs x) a o (r.ex0 a o h n)
  dom0 := fun a h => x.dom (r.dom0 a h)
  slot := fun i d h => by
    obtain ⟨v, h1, h2⟩ := r.slot i d h
    refine ⟨v, h1, ?_⟩
    cases q : cf.kd i with
    | S => rw [q] at h2; exact Rp.mono (Ex.grow r.exs x) h2
    | Q => rw [q] at h2; exact Rp.mono (Ex.grow r.exs x) h2
    | P => rw [q] at h2; exact Own.mono (th_mono (rs_mono (Ex.grow r.exs x))) x h2
    | N => rw [q] at h2; exact Rp.mono (rs_mono (Ex.grow r.exs x)) h2
    | M => rw [q] at h2; exact ⟨Own.mono (rs_mono (Ex.grow r.exs x)) x h2.1, h2.2⟩
    | W =>
      rw [q] at h2
      obtain ⟨p, xs, ds, e1, e2, e3, e4, e5⟩ := h2
      exact ⟨p, xs, ds, e1, e2, e3, x _ _ e4, e5⟩
  nod := r.nod
  dis := r.dis
  fdom := fun i a h => x.dom (r.fdom i a h)
  uns := fun i a h => by
    have hd := r.fdom i a h
    cases q : H a with
    | none => exact absurd q hd
    | some o => rw [grow_some q]; exact r.uns i a h
  new := r.new
  volw := r.volw
  volb := r.volb
  wdom := fun a h => by
    obtain ⟨h1, h2⟩ := r.wdom a h
    refine ⟨x.dom h1, ?_⟩
    cases q : H a with
    | none => exact absurd q h1
    | some o => rw [grow_some q]; exact h2
  ior := r.ior
end
def Nr (K : PySem.W.Frag) (n : Bool) (Hst Hs' : Hp) (v : V) (d : D) : Prop := n = true → d.flat = true → Rp K true (rs Hs' Hst) v d
def Sd (cf : Cf) (W : WX) (c : Cls) (n : Bool) (te : TE) (f : M D) : Prop :=
  ∀ (R : Rs) (Hs : Hp) (env : PEnv) (σ : L2.St) (H : Hp) (F : Nat → List Addr) (wf : List Addr), Rel cf R Hs env σ H F wf → ∀ Q : VK,
    match f env with
    | .ok d env' => (∀ v Hs' H', Stp cf wf env Hs H env' Hs' H' → Rel cf R Hs' env' σ H' F wf → Rp cf.K true (rg c R.H0 Hs' H H' wf) v d → Nr cf.K n H Hs' v d → Q v H') → te σ H Q
    | .ex x env' => (∀ Hs' H', Stp cf wf env Hs H env' Hs' H' → Rel cf R Hs' env' σ H' F wf → W (cf.cv x) none σ H') → te σ H Q
    | .stuck => True
def SdT (cf : Cf) (W : WX) (tt : TT) (f : M Bool) : Prop :=
  ∀ (R : Rs) (Hs : Hp) (env : PEnv) (σ : L2.St) (H : Hp) (F : Nat → List Addr) (wf : List Addr), Rel cf R Hs env σ H F wf → ∀ Q : Bool → Hp → Prop,
    match f env with
    | .ok b env' => (∀ Hs' H', Stp cf wf env Hs H env' Hs' H' → Rel cf R Hs' env' σ H' F wf → Q b H') → tt σ H Q
    | .ex x env' => (∀ Hs' H', Stp cf wf env Hs H env' Hs' H' → Rel cf R Hs' env' σ H' F wf → W (cf.cv x) none σ H') → tt σ H Q
    | .stuck => True
def SdA (cf : Cf) (W : WX) (c : Cls) (ta : TA) (f : M (List D)) : Prop :=
  ∀ (R : Rs) (Hs : Hp) (env : PEnv) (σ : L2.St) (H : Hp) (F : Nat → List Addr) (wf : List Addr), Rel cf R Hs env σ H F wf → ∀ Q : List V → Hp → Prop,
    match f env with
    | .ok ds env' => (∀ vs Hs' H', Stp cf wf env Hs H env' Hs' H' → Rel cf R Hs' env' σ H' F wf → RpL cf.K true (rg c R.H0 Hs' H H' wf) vs ds → Q vs H') → ta σ H Q
    | .ex x env' => (∀ Hs' H', Stp cf wf env Hs H env' Hs' H' → Rel cf R Hs' env' σ H' F wf → W (cf.cv x) none σ H') → ta σ H Q
    | .stuck => True
def Post (cf : Cf) (W : WX) (R : Rs) (Hs : Hp) (D : Ends) : Res Fl → Prop
  | .ok .nx env' => ∀ Hs' σ' H' F' wf', Ex Hs Hs' → Rel cf R Hs' env' σ' H' F' wf' → D.nx σ' H'
  | .ok (.rt d) env' => ∀ v Hs' σ' H' F' wf', Ex Hs Hs' → Rel cf R Hs' env' σ' H' F' wf' → Rp cf.K true (rs (rm H' wf') R.H0) v d → D.rt v H'
  | .ok .bk env' => ∀ Hs' σ' H' F' wf', Ex Hs Hs' → Rel cf R Hs' env' σ' H' F' wf' → D.bk σ' H'
  | .ok .ct env' => ∀ Hs' σ' H' F' wf', Ex Hs Hs' → Rel cf R Hs' env' σ' H' F' wf' → D.ct σ' H'
  | .ex x env' => ∀ Hs' σ' H' F' wf', Ex Hs Hs' → Rel cf R Hs' env' σ' H' F' wf' → W (cf.cv x) none σ' H'
  | .stuck => False
def SdS (cf : Cf) (W : WX) (ts : TS) (g : M Fl) : Prop :=
  ∀ (R : Rs) (Hs : Hp) (env : PEnv) (σ : L2.St) (H : Hp) (F : Nat → List Addr) (wf : List Addr), Rel cf R Hs env σ H F wf → ∀ D : Ends, Post cf W R Hs D (g env) → ts D σ H
structure SE (X : Cx) (cf : Cf) (W : WX) (c : Cls) (n : Bool) (e : Expr) (t : TE) (f : M D) : Prop where
  p : PE X e t
  s : Sd cf W c n t f
structure ST (X : Cx) (cf : Cf) (W : WX) (e : Expr) (t : TT) (f : M Bool) : Prop where
  p : PT X e t
  s : SdT cf W t f
structure SW (X : Cx) (cf : Cf) (W : WX) (e : Expr) (t : TT) (f : M Bool) : Prop where
  p : PW X e t
  s : SdT cf W t f
structure SA (X : Cx) (cf : Cf) (W : WX) (c : Cls) (es : List Expr) (t : TA) (f : M (List D)) : Prop where
  p : PA X es t
  s : SdA cf W c t f
def SS (X : Cx) (cf : Cf) (W : WX) (st : Stmt) (g : M Fl) : Prop := ∃ t, PS X st t ∧ SdS cf W t g
def SSs (X : Cx) (cf : Cf) (W : WX) (st : List Stmt) (g : M Fl) : Prop := ∃ t, PSs X st t ∧ SdS cf W t g
theorem Sd.le {cf : Cf} {W : WX} {c c' : Cls} {n : Bool} {te : TE} {f : M D} (h : Sd cf W c n te f) (l : Cls.Le c c') : Sd cf W c' n te f := by
  intro R Hs env σ H F wf r Q
  have h := h R Hs env σ H F wf r Q
  cases q : f env with
  | ok d env' =>
    rw [q] at h
    intro k
    refine h fun v Hs' H' s r' p nr => k v Hs' H' s r' (p.mono (rg_le l r'.exs r.dom0 fun a m => (r'.wdom a m).2)) nr
  | ex x env' => rw [q] at h; exact h
  | stuck => trivial
theorem SE.le {X : Cx} {cf : Cf} {W : WX} {c c' : Cls} {n : Bool} {e : Expr} {te : TE} {f : M D} (h : SE X cf W c n e te f) (l : Cls.Le c c') : SE X cf W c' n e te f := ⟨h.p, h.s.le l⟩
theorem Cls.leB (c : Cls) : Cls.Le c .B := by
  cases c with
  | V => exact .vb
  | N => exact .nb
  | S => exact .sb
  | L => exact .lb
  | B => exact .rfl _
theorem Sd.b {cf : Cf} {W : WX} {c : Cls} {n : Bool} {te : TE} {f : M D} (h : Sd cf W c n te f) : Sd cf W .B n te f := h.le (Cls.leB c)
theorem SE.b {X : Cx} {cf : Cf} {W : WX} {c : Cls} {n : Bool} {e : Expr} {te : TE} {f : M D} (h : SE X cf W c n e te f) : SE X cf W .B n e te f := h.le (Cls.leB c)
def ScF (f : M D) : Prop := ∀ env d env', f env = .ok d env' → d.sc = true
theorem Sd.low {cf : Cf} {W : WX} {c c' : Cls} {n n' : Bool} {te : TE} {f : M D} (s : Sd cf W c n te f) (hs : ScF f) : Sd cf W c' n' te f := by
  intro R Hs env σ H F wf r Q
  have h := s R Hs env σ H F wf r Q
  cases q : f env with
  | ok d env' =>
    rw [q] at h
    exact fun k => h fun v Hs' H' st r' p nr => k v Hs' H' st r' (p.sc_any (hs _ _ _ q) _ _) fun _ _ => p.sc_any (hs _ _ _ q) _ _
  | ex x env' => rw [q] at h; exact h
  | stuck => trivial
theorem SE.low {X : Cx} {cf : Cf} {W : WX} {c c' : Cls} {n n' : Bool} {e : Expr} {te : TE} {f : M D} (h : SE X cf W c n e te f) (hs : ScF f) : SE X cf W c' n' e te f := ⟨h.p, h.s.low hs⟩
def eF (f : M D) : M D := bnd f fun d => lift (if d.flat then some d else none)
theorem SE.flat {X : Cx} {cf : Cf} {W : WX} {c : Cls} {e : Expr} {te : TE} {f : M D} (h : SE X cf W c true e te f) : SE X cf W .V true e te (eF f) := by
  obtain ⟨p, s⟩ := h
  refine ⟨p, fun R Hs env σ H F wf r Q => ?_⟩
  have h := s R Hs env σ H F wf r Q
  cases q : f env with
  | ok d env' =>
    rw [q] at h
    cases hf : d.flat with
    | true =>
      have e1 : eF f env = .ok d env' := by simp [eF, bnd, lift, q, hf]
      rw [e1]
      exact fun k => h fun v Hs' H' st r' p nr => k v Hs' H' st r' (nr rfl hf) nr
    | false =>
      have e1 : eF f env = .stuck := by simp [eF, bnd, lift, q, hf]
      rw [e1]
      trivial
  | ex x env' =>
    rw [q] at h
    have e1 : eF f env = .ex x env' := by simp [eF, bnd, q]
    rw [e1]
    exact h
  | stuck =>
    have e1 : eF f env = .stuck := by simp [eF, bnd, q]
    rw [e1]
    trivial
end MV
namespace MV
open PySem L2
section
variable {α β : Type} {m : M α} {k : α → M β} {e e' : PEnv} {b : β} {a : α} {x : Str} {o : Option α}
theorem bnd_ok (h : bnd m k e = .ok b e') : ∃ a e1, m e = .ok a e1 ∧ k a e1 = .ok b e' := by
  unfold bnd at h
  cases q : m e with
  | ok a e1 => rw [q] at h; exact ⟨a, e1, rfl, h⟩
  | ex c e1 => rw [q] at h; cases h
  | stuck => rw [q] at h; cases h
theorem bnd_ex (h : bnd m k e = .ex x e') : m e = .ex x e' ∨ ∃ a e1, m e = .ok a e1 ∧ k a e1 = .ex x e' := by
  unfold bnd at h
  cases q : m e with
  | ok a e1 => rw [q] at h; exact .inr ⟨a, e1, rfl, h⟩
  | ex c e1 => rw [q] at h; exact .inl (show Res.ex c e1 = Res.ex x e' from by cases h; rfl)
  | stuck => rw [q] at h; cases h
theorem bnd_of_ok {e1 : PEnv} (h : m e = .ok a e1) : bnd m k e = k a e1 := by unfold bnd; rw [h]
theorem bnd_of_ex {e1 : PEnv} (h : m e = .ex x e1) : bnd m k e = .ex x e1 := by unfold bnd; rw [h]
theorem bnd_of_stuck (h : m e = .stuck) : bnd m k e = .stuck := by unfold bnd; rw [h]
theorem lift_ok (h : lift o e = .ok a e') : o = some a ∧ e' = e := by
  unfold lift at h
  cases o with
  | none => cases h
  | some z => cases h; exact ⟨rfl, rfl⟩
theorem lift_ex (h : lift o e = .ex x e') : False := by
  unfold lift at h
  cases o with
  | none => cases h
  | some z => cases h
end
section
variable {cf : Cf} {W : WX} {c : Cls} {n : Bool} {te : TE} {f : M D} {R : Rs} {Hs : Hp} {env env' : PEnv} {σ : L2.St} {H : Hp} {F : Nat → List Addr} {wf : List Addr}
theorem Sd.ok (s : Sd cf W c n te f) (r : Rel cf R Hs env σ H F wf) {d : D} (q : f env = .ok d env') {Q : VK} (k : ∀ v Hs' H', Stp cf wf env Hs H env' Hs' H' → Rel cf R Hs' env' σ H' F wf → Rp cf.K true (rg c R.H0 Hs' H H' wf) v d → Nr cf.K n H Hs' v d → Q v H') : te σ H Q := by
  have h := s R Hs env σ H F wf r Q
  rw [q] at h
  exact h k
theorem Sd.exn (s : Sd cf W c n te f) (r : Rel cf R Hs env σ H F wf) {x : Str} (q : f env = .ex x env') {Q : VK} (k : ∀ Hs' H', Stp cf wf env Hs H env' Hs' H' → Rel cf R Hs' env' σ H' F wf → W (cf.cv x) none σ H') : te σ H Q := by
  have h := s R Hs env σ H F wf r Q
  rw [q] at h
  exact h k
theorem Sd.mk (h1 : ∀ R Hs env σ H F wf, Rel cf R Hs env σ H F wf → ∀ d env', f env = .ok d env' → ∀ Q : VK, (∀ v Hs' H', Stp cf wf env Hs H env' Hs' H' → Rel cf R Hs' env' σ H' F wf → Rp cf.K true (rg c R.H0 Hs' H H' wf) v d → Nr cf.K n H Hs' v d → Q v H') → te σ H Q)
    (h2 : ∀ R Hs env σ H F wf, Rel cf R Hs env σ H F wf → ∀ x env', f env = .ex x env' → ∀ Q : VK, (∀ Hs' H', Stp cf wf env Hs H env' Hs' H' → Rel cf R Hs' env' σ H' F wf → W (cf.cv x) none σ H') → te σ H Q) : Sd cf W c n te f := by
  intro R Hs env σ H F wf r Q
  cases q : f env with
  | ok d env' => exact h1 R Hs env σ H F wf r d env' q Q
  | ex x env' => exact h2 R Hs env σ H F wf r x env' q Q
  | stuck => trivial
theorem SdT.ok {tt : TT} {f : M Bool} (s : SdT cf W tt f) (r : Rel cf R Hs env σ H F wf) {d : Bool} (q : f env = .ok d env') {Q : Bool → Hp → Prop} (k : ∀ Hs' H', Stp cf wf env Hs H env' Hs' H' → Rel cf R Hs' env' σ H' F wf → Q d H') : tt σ H Q := by
  have h := s R Hs env σ H F wf r Q
  rw [q] at h
  exact h k
theorem SdT.exn {tt : TT} {f : M Bool} (s : SdT cf W tt f) (r : Rel cf R Hs env σ H F wf) {x : Str} (q : f env = .ex x env') {Q : Bool → Hp → Prop} (k : ∀ Hs' H', Stp cf wf env Hs H env' Hs' H' → Rel cf R Hs' env' σ H' F wf → W (cf.cv x) none σ H') : tt σ H Q := by
  have h := s R Hs env σ H F wf r Q
  rw [q] at h
  exact h k
theorem SdT.mk {tt : TT} {f : M Bool} (h1 : ∀ R Hs env σ H F wf, Rel cf R Hs env σ H F wf → ∀ d env', f env = .ok d env' → ∀ Q : Bool → Hp → Prop, (∀ Hs' H', Stp cf wf env Hs H env' Hs' H' → Rel cf R Hs' env' σ H' F wf → Q d H') → tt σ H Q)
    (h2 : ∀ R Hs env σ H F wf, Rel cf R Hs env σ H F wf → ∀ x env', f env = .ex x env' → ∀ Q : Bool → Hp → Prop, (∀ Hs' H', Stp cf wf env Hs H env' Hs' H' → Rel cf R Hs' env' σ H' F wf → W (cf.cv x) none σ H') → tt σ H Q) : SdT cf W tt f := by
  intro R Hs env σ H F wf r Q
  cases q : f env with
  | ok d env' => exact h1 R Hs env σ H F wf r d env' q Q
  | ex x env' => exact h2 R Hs env σ H F wf r x env' q Q
  | stuck => trivial
theorem SdA.ok {ta : TA} {f : M (List D)} (s : SdA cf W c ta f) (r : Rel cf R Hs env σ H F wf) {d : List D} (q : f env = .ok d env') {Q : List V → Hp → Prop} (k : ∀ vs Hs' H', Stp cf wf env Hs H env' Hs' H' → Rel cf R Hs' env' σ H' F wf → RpL cf.K true (rg c R.H0 Hs' H H' wf) vs d → Q vs H') : ta σ H Q := by
  have h := s R Hs env σ H F wf r Q
  rw [q] at h
  exact h k
theorem SdA.exn {ta : TA} {f : M (List D)} (s : SdA cf W c ta f) (r : Rel cf R Hs env σ H F wf) {x : Str} (q : f env = .ex x env') {Q : List V → Hp → Prop} (k : ∀ Hs' H', Stp cf wf env Hs H env' Hs' H' → Rel cf R Hs' env' σ H' F wf → W (cf.cv x) none σ H') : ta σ H Q := by
  have h := s R Hs env σ H F wf r Q
  rw [q] at h
  exact h k
theorem SdA.mk {ta : TA} {f : M (List D)} (h1 : ∀ R Hs env σ H F wf, Rel cf R Hs env σ H F wf → ∀ d env', f env = .ok d env' → ∀ Q : List V → Hp → Prop, (∀ vs Hs' H', Stp cf wf env Hs H env' Hs' H' → Rel cf R Hs' env' σ H' F wf → RpL cf.K true (rg c R.H0 Hs' H H' wf) vs d → Q vs H') → ta σ H Q)
    (h2 : ∀ R Hs env σ H F wf, Rel cf R Hs env σ H F wf → ∀ x env', f env = .ex x env' → ∀ Q : List V → Hp → Prop, (∀ Hs' H', Stp cf wf env Hs H env' Hs' H' → Rel cf R Hs' env' σ H' F wf → W (cf.cv x) none σ H') → ta σ H Q) : SdA cf W c ta f := by
  intro R Hs env σ H F wf r Q
  cases q : f env with
  | ok d env' => exact h1 R Hs env σ H F wf r d env' q Q
  | ex x env' => exact h2 R Hs env σ H F wf r x env' q Q
  | stuck => trivial
end
def eV (i : Nat) : M D := fun e => match e[i]? with
  | some (some d) => .ok d e
  | _ => .stuck
def eC (d : D) : M D := fun e => .ok d e
theorem eV_ok {i : Nat} {e e' : PEnv} {d : D} (h : eV i e = .ok d e') : e[i]? = some (some d) ∧ e' = e := by
  unfold eV at h
  split at h
  · rename_i d' q; cases h; exact ⟨q, rfl⟩
  · cases h
theorem eV_ex {i : Nat} {e e' : PEnv} {x : Str} (h : eV i e = .ex x e') : False := by
  unfold eV at h
  split at h <;> cases h
section
variable {X : Cx} {cf : Cf} {W : WX}
theorem sd_var {c : Cls} {i : Nat} (hk : ∀ R Hs env σ H F wf, Rel cf R Hs env σ H F wf → ∀ v d, SlotR cf.K R Hs H (F i) (cf.kd i) v d → Rp cf.K true (rg c R.H0 Hs H H wf) v d) : Sd cf W c false (tVar i) (eV i) := by
  refine Sd.mk (fun R Hs env σ H F wf r d env' q Q k => ?_) (fun _ _ _ _ _ _ _ _ _ _ q => (eV_ex q).elim)
  obtain ⟨q, rfl⟩ := eV_ok q
  obtain ⟨v, hv, hs⟩ := r.slot i d q
  exact ⟨v, hv, k v Hs H Stp.refl r (hk R Hs env' σ H F wf r v d hs) fun z => by cases z⟩
theorem se_vS (i : Nat) {e : Expr} (p : PE X e (tVar i)) (hk : cf.kd i = .S) : SE X cf W .S false e (tVar i) (eV i) := ⟨p, sd_var fun R Hs env σ H F wf r v d h => by rw [hk] at h; exact h⟩
theorem se_vN (i : Nat) {e : Expr} (p : PE X e (tVar i)) (hk : cf.kd i = .N) : SE X cf W .N false e (tVar i) (eV i) := ⟨p, sd_var fun R Hs env σ H F wf r v d h => by rw [hk] at h; exact h⟩
theorem Rel.mL {R : Rs} {Hs : Hp} {env : PEnv} {σ : L2.St} {H : Hp} {F : Nat → List Addr} {wf : List Addr} (r : Rel cf R Hs env σ H F wf) {i : Nat} (hk : cf.kd i ≠ .W) : ∀ a ∈ F i, ∀ o, H a = some o → rs (rm H wf) R.H0 a = some o := fun a m o h => by
  have h0 : R.H0 a = none := by
    rcases r.new i a m with z | z
    · obtain ⟨_, hF, hw, _⟩ := r.ior a z
      by_cases e : i = 0
      · subst e; exact absurd hw hk
      · exact absurd (by rw [hF]; exact List.mem_singleton.mpr rfl) (r.dis i 0 e a m)
    · exact z
  rw [rs_none h0]
  unfold rm
  rw [if_neg (r.volb i hk a m)]
  exact h
theorem Rel.nL {R : Rs} {Hs : Hp} {env : PEnv} {σ : L2.St} {H : Hp} {F : Nat → List Addr} {wf : List Addr} (r : Rel cf R Hs env σ H F wf) : Ex (rs Hs R.H0) (rs (rm H wf) R.H0) :=
  rg_le (c := .N) (c' := .L) .nl (Hst := H) r.exs r.dom0 fun a m => (r.wdom a m).2
theorem se_vM (i : Nat) {e : Expr} (p : PE X e (tVar i)) (hk : cf.kd i = .M) : SE X cf W .L false e (tVar i) (eV i) := ⟨p, sd_var fun R Hs env σ H F wf r v d h => by
  rw [hk] at h
  exact Own.rp r.nL h.1 (r.mL (by rw [hk]; exact fun z => by cases z))⟩
theorem sd_C {v : V} {d : D} (h : d.toV = some v) : Sd cf W .V true (tC v) (eC d) :=
  Sd.mk (fun R Hs env σ H F wf r d' env' q Q k => by cases q; exact k v Hs H Stp.refl r (.sc h) fun _ _ => .sc h) (fun _ _ _ _ _ _ _ _ _ _ q => by cases q)
theorem se_int {i : Int} {j : Nat} {pos : Pos} : SE X cf W .V true (.Constant (.int i) j pos) (tC (.int i)) (eC (.int i)) := ⟨pe_int, sd_C rfl⟩
theorem se_bl {b : Bool} {j : Nat} {pos : Pos} : SE X cf W .V true (.Constant (.bool b) j pos) (tC (.bl b)) (eC (.bl b)) := ⟨pe_bl, sd_C rfl⟩
theorem se_non {j : Nat} {pos : Pos} : SE X cf W .V true (.Constant .none j pos) (tC .non) (eC .non) := ⟨pe_non, sd_C rfl⟩
theorem se_str {x : Str} {j : Nat} {pos : Pos} : SE X cf W .V true (.Constant (.str x) j pos) (tC (.str x)) (eC (.str x)) := ⟨pe_str, sd_C rfl⟩
theorem se_glob {e : Expr} {v : V} {d : D} (p : PE X e (tC v)) (h : d.toV = some v) : SE X cf W .V true e (tC v) (eC d) := ⟨p, sd_C h⟩
end
def e1 (g : D → Option D) (a : M D) : M D := bnd a fun x => lift (g x)
def e2 (g : D → D → Option D) (a b : M D) : M D := bnd a fun x => bnd b fun y => lift (g x y)
def eN (g : List D → Option D) (a : M (List D)) : M D := bnd a fun x => lift (g x)
def aNil : M (List D) := ret []
def aCons (a : M D) (r : M (List D)) : M (List D) := bnd a fun x => bnd r fun xs => ret (x :: xs)
def Nn (K : PySem.W.Frag) (n : Bool) (H H' : Hp) (v : V) (d : D) : Prop := n = true → d.flat = true → Rp K true (nw H H') v d
def Snd1 (K : PySem.W.Frag) (n : Bool) (r : V → Hp → VK → Prop) (g : D → Option D) : Prop := ∀ (G H : Hp) (x : V) (d1 d : D), Ex G H → Rp K true G x d1 → g d1 = some d → ∀ Q : VK, (∀ v H', Ex H H' → Rp K true (grow G H H') v d → Nn K n H H' v d → Q v H') → r x H Q
def Snd2 (K : PySem.W.Frag) (n : Bool) (r : R2) (g : D → D → Option D) : Prop := ∀ (G H : Hp) (x y : V) (d1 d2 d : D), Ex G H → Rp K true G x d1 → Rp K true G y d2 → g d1 d2 = some d → ∀ Q : VK, (∀ v H', Ex H H' → Rp K true (grow G H H') v d → Nn K n H H' v d → Q v H') → r x y H Q
def SndN (K : PySem.W.Frag) (n : Bool) (r : List V → Hp → VK → Prop) (g : List D → Option D) : Prop := ∀ (G H : Hp) (xs : List V) (ds : List D) (d : D), Ex G H → RpL K true G xs ds → g ds = some d → ∀ Q : VK, (∀ v H', Ex H H' → Rp K true (grow G H H') v d → Nn K n H H' v d → Q v H') → r xs H Q
theorem nr_of {K : PySem.W.Frag} {n : Bool} {Hst Hs H H' : Hp} {v : V} {d : D} (ds : ∀ a, Hst a ≠ none → H a ≠ none) (h : Nn K n H H' v d) : Nr K n Hst (grow Hs H H') v d := fun z hf => (h z hf).mono fun a o q => by
  cases e : H a with
  | none =>
    rw [nw_none e] at q
    have : Hst a = none := by
      cases z : Hst a with
      | none => rfl
      | some u => exact absurd e (ds a (by rw [z]; exact fun y => by cases y))
    rw [rs_none this, grow_none e]; exact q
  | some u => rw [nw_some e] at q; cases q
section
variable {X : Cx} {cf : Cf} {W : WX} {c : Cls} {n n1 n2 : Bool}
theorem fin_op {R : Rs} {Hs Hs2 : Hp} {env env2 : PEnv} {σ : L2.St} {H H2 H3 : Hp} {F : Nat → List Addr} {wf : List Addr} {v : V} {d : D} (s : Stp cf wf env Hs H env2 Hs2 H2) (r : Rel cf R Hs2 env2 σ H2 F wf) (x : Ex H2 H3) (p : Rp cf.K true (grow (rg c R.H0 Hs2 H H2 wf) H2 H3) v d) (nn : Nn cf.K n H2 H3 v d) {Q : VK}
    (k : ∀ v Hs' H', Stp cf wf env Hs H env2 Hs' H' → Rel cf R Hs' env2 σ H' F wf → Rp cf.K true (rg c R.H0 Hs' H H' wf) v d → Nr cf.K n H Hs' v d → Q v H') : Q v H3 :=
  k v (grow Hs2 H2 H3) H3 (s.trans (Stp.grow r.exs x)) (r.grow x) (p.mono (rg_grow r.dom0 s.dom (fun a m => (r.wdom a m).1) r.exs x)) (nr_of s.dom nn)
theorem sd_op1 {r : V → Hp → VK → Prop} {g : D → Option D} {ta : TE} {fa : M D} (hs : Snd1 cf.K n r g) (ha : Sd cf W c n1 ta fa) : Sd cf W c n (tUn r ta) (e1 g fa) := by
  refine Sd.mk (fun R Hs env σ H F wf r d env' q Q k => ?_) (fun R Hs env σ H F wf r x env' q Q k => ?_)
  · obtain ⟨d1, env1, q1, q⟩ := bnd_ok q
    obtain ⟨qg, rfl⟩ := lift_ok q
    exact ha.ok r q1 fun v Hs1 H1 s1 r1 p1 _ => hs _ H1 v d1 d (rg_sub r1.exs) p1 qg Q fun v2 H2 x p nn => fin_op s1 r1 x p nn k
  · rcases bnd_ex q with q | ⟨d1, env1, q1, q⟩
    · exact ha.exn r q k
    · exact (lift_ex q).elim
theorem sd_op2 {r : R2} {g : D → D → Option D} {ta tb : TE} {fa fb : M D} (hs : Snd2 cf.K n r g) (ha : Sd cf W c n1 ta fa) (hb : Sd cf W c n2 tb fb) : Sd cf W c n (tOp r ta tb) (e2 g fa fb) := by
  refine Sd.mk (fun R Hs env σ H F wf r d env' q Q k => ?_) (fun R Hs env σ H F wf r x env' q Q k => ?_)
  · obtain ⟨d1, env1, q1, q⟩ := bnd_ok q
    obtain ⟨d2, env2, q2, q⟩ := bnd_ok q
    obtain ⟨qg, rfl⟩ := lift_ok q
    exact ha.ok r q1 fun v Hs1 H1 s1 r1 p1 _ => hb.ok r1 q2 fun v2 Hs2 H2 s2 r2 p2 _ =>
      hs (rg c R.H0 Hs2 H H2 wf) H2 v v2 d1 d2 d (rg_sub r2.exs) (p1.mono (rg_step s2)) (p2.mono (rg_start s1.dom)) qg Q fun v3 H3 x p nn => fin_op (s1.trans s2) r2 x p nn k
  · rcases bnd_ex q with q | ⟨d1, env1, q1, q⟩
    · exact ha.exn r q k
    · rcases bnd_ex q with q | ⟨d2, env2, q2, q⟩
      · exact ha.ok r q1 fun v Hs1 H1 s1 r1 p1 _ => hb.exn r1 q fun Hs2 H2 s2 r2 => k Hs2 H2 (s1.trans s2) r2
      · exact (lift_ex q).elim
theorem sd_opN {r : List V → Hp → VK → Prop} {g : List D → Option D} {ta : TA} {fa : M (List D)} (hs : SndN cf.K n r g) (ha : SdA cf W c ta fa) : Sd cf W c n (tCB r ta) (eN g fa) := by
  refine Sd.mk (fun R Hs env σ H F wf r d env' q Q k => ?_) (fun R Hs env σ H F wf r x env' q Q k => ?_)
  · obtain ⟨d1, env1, q1, q⟩ := bnd_ok q
    obtain ⟨qg, rfl⟩ := lift_ok q
    exact ha.ok r q1 fun v Hs1 H1 s1 r1 p1 => hs _ H1 v d1 d (rg_sub r1.exs) p1 qg Q fun v2 H2 x p nn => fin_op s1 r1 x p nn k
  · rcases bnd_ex q with q | ⟨d1, env1, q1, q⟩
    · exact ha.exn r q k
    · exact (lift_ex q).elim
theorem sda_nil : SdA cf W c tNil aNil := SdA.mk (fun R Hs env σ H F wf r d env' q Q k => by cases q; exact k [] Hs H Stp.refl r .nil) (fun _ _ _ _ _ _ _ _ _ _ q => by cases q)
theorem sda_cons {ta : TE} {fa : M D} {tr : TA} {fr : M (List D)} (ha : Sd cf W c n1 ta fa) (hr : SdA cf W c tr fr) : SdA cf W c (tCons ta tr) (aCons fa fr) := by
  refine SdA.mk (fun R Hs env σ H F wf r d env' q Q k => ?_) (fun R Hs env σ H F wf r x env' q Q k => ?_)
  · obtain ⟨d1, env1, q1, q⟩ := bnd_ok q
    obtain ⟨d2, env2, q2, q⟩ := bnd_ok q
    cases q
    exact ha.ok r q1 fun v Hs1 H1 s1 r1 p1 _ => hr.ok r1 q2 fun v2 Hs2 H2 s2 r2 p2 => k (v :: v2) Hs2 H2 (s1.trans s2) r2 (.cons (p1.mono (rg_step s2)) (p2.mono (rg_start s1.dom)))
  · rcases bnd_ex q with q | ⟨d1, env1, q1, q⟩
    · exact ha.exn r q k
    · rcases bnd_ex q with q | ⟨d2, env2, q2, q⟩
      · exact ha.ok r q1 fun v Hs1 H1 s1 r1 p1 _ => hr.exn r1 q fun Hs2 H2 s2 r2 => k Hs2 H2 (s1.trans s2) r2
      · cases q
theorem sa_nil : SA X cf W c [] tNil aNil := ⟨pa_nil, sda_nil⟩
theorem sa_cons {e : Expr} {es : List Expr} {ta : TE} {tr : TA} {fa : M D} {fr : M (List D)} (ha : SE X cf W c n1 e ta fa) (hr : SA X cf W c es tr fr) (hs : starEach (e :: es) X.env = (false, eval e X.env) :: starEach es X.env := by rfl) : SA X cf W c (e :: es) (tCons ta tr) (aCons fa fr) := ⟨pa_cons ha.p hr.p hs, sda_cons ha.s hr.s⟩
def gLst (ds : List D) : Option D := if ds.length ≤ sizeLine then some (.lst ds) else none
def gTupD (ds : List D) : Option D := if ds.length ≤ sizeLine then some (.tup ds) else none
theorem new_rp {K : PySem.W.Frag} {G H : Hp} {p : Addr} {xs : List V} {ds : List D} (e : Ex G H) (hp : H p = none) (h : RpL K true G xs ds) : Rp K true (grow G H (upd H p (.lst xs))) (.ref p) (.lst ds) :=
  .lst (show grow G H (upd H p (.lst xs)) p = _ by rw [grow_none hp, upd_same]) (h.mono (Ex.grow e (Ex.new hp)))
theorem new_nn {K : PySem.W.Frag} {n : Bool} {G H : Hp} {p : Addr} {xs : List V} {ds : List D} (hp : H p = none) (h : RpL K true G xs ds) : Nn K n H (upd H p (.lst xs)) (.ref p) (.lst ds) := fun _ hf =>
  .lst (show nw H (upd H p (.lst xs)) p = _ by rw [nw_none hp, upd_same]) (h.sc_any hf _ _)
theorem newT_rp {K : PySem.W.Frag} {G H : Hp} {p : Addr} {xs : List V} {ds : List D} (e : Ex G H) (hp : H p = none) (h : RpL K true G xs ds) : Rp K true (grow G H (upd H p (.tup xs))) (.ref p) (.tup ds) :=
  .tup (show grow G H (upd H p (.tup xs)) p = _ by rw [grow_none hp, upd_same]) (h.mono (Ex.grow e (Ex.new hp)))
theorem newT_nn {K : PySem.W.Frag} {n : Bool} {G H : Hp} {p : Addr} {xs : List V} {ds : List D} (hp : H p = none) (h : RpL K true G xs ds) : Nn K n H (upd H p (.tup xs)) (.ref p) (.tup ds) := fun _ hf =>
  .tup (show nw H (upd H p (.tup xs)) p = _ by rw [nw_none hp, upd_same]) (h.sc_any hf _ _)
theorem snd_lst {K : PySem.W.Frag} {n : Bool} : SndN K n (fun xs H1 Q => xs.length ≤ sizeLine ∧ ∀ p, H1 p = none → Q (.ref p) (upd H1 p (.lst xs))) gLst := fun G H xs ds d e h q Q k => by
  unfold gLst at q
  split at q
  · cases q
    rename_i hl
    exact ⟨by rw [h.length]; exact hl, fun p hp => k _ _ (Ex.new hp) (new_rp e hp h) (new_nn hp h)⟩
  · cases q
theorem snd_tup {K : PySem.W.Frag} {n : Bool} : SndN K n (fun xs H1 Q => xs.length ≤ sizeLine ∧ ∀ p, H1 p = none → Q (.ref p) (upd H1 p (.tup xs))) gTupD := fun G H xs ds d e h q Q k => by
  unfold gTupD at q
  split at q
  · cases q
    rename_i hl
    exact ⟨by rw [h.length]; exact hl, fun p hp => k _ _ (Ex.new hp) (newT_rp e hp h) (newT_nn hp h)⟩
  · cases q
theorem se_lst {es : List Expr} {ta : TA} {fa : M (List D)} {pos : Pos} (h : SA X cf W c es ta fa) : SE X cf W c true (.List es pos) (tLst ta) (eN gLst fa) := by
  obtain ⟨p, s⟩ := h
  exact ⟨pe_lst p, sd_opN (r := fun xs H1 Q => xs.length ≤ sizeLine ∧ ∀ p, H1 p = none → Q (.ref p) (upd H1 p (.lst xs))) snd_lst s⟩
theorem se_tup {es : List Expr} {ta : TA} {fa : M (List D)} {x1 : Nat} {pos : Pos} (h : SA X cf W c es ta fa) : SE X cf W c true (.Tuple es x1 pos) (tTup ta) (eN gTupD fa) := by
  obtain ⟨p, s⟩ := h
  exact ⟨pe_tup p, sd_opN (r := fun xs H1 Q => xs.length ≤ sizeLine ∧ ∀ p, H1 p = none → Q (.ref p) (upd H1 p (.tup xs))) snd_tup s⟩
theorem se_bin {op : Operator} {r : R2} {g : D → D → Option D} {a b : Expr} {ta tb : TE} {fa fb : M D} {pos : Pos} (ho : OpR X (binaryOp op) r) (hs : Snd2 cf.K n r g) (ha : SE X cf W c n1 a ta fa) (hb : SE X cf W c n2 b tb fb) : SE X cf W c n (.BinOp a op b pos) (tOp r ta tb) (e2 g fa fb) := ⟨pe_op ho ha.p hb.p, sd_op2 hs ha.s hb.s⟩
theorem se_una {op : UnaryOp} {r : V → Hp → VK → Prop} {g : D → Option D} {a : Expr} {ta : TE} {fa : M D} {pos : Pos} (ho : UnR X (unaryOp op) r) (hs : Snd1 cf.K n r g) (ha : SE X cf W c n1 a ta fa) : SE X cf W c n (.UnaryOp op a pos) (tUn r ta) (e1 g fa) := ⟨pe_un ho ha.p, sd_op1 hs ha.s⟩
theorem se_cmp {op : CmpOp} {r : R2} {g : D → D → Option D} {a b : Expr} {ta tb : TE} {fa fb : M D} {pos : Pos} (ho : OpR X (compareOp op) r) (hs : Snd2 cf.K n r g) (ha : SE X cf W c n1 a ta fa) (hb : SE X cf W c n2 b tb fb) (hm : behindInMarks op b = false) : SE X cf W c n (.Compare a [op] [b] pos) (tOp r ta tb) (e2 g fa fb) := ⟨pe_cmpR ho ha.p hb.p hm, sd_op2 hs ha.s hb.s⟩
def asB (d : D) : Option Bool := match d with
  | .bl b => some b
  | _ => none
def tB (f : M D) : M Bool := bnd f fun d => lift (asB d)
theorem asB_some {d : D} {b : Bool} (h : asB d = some b) : d = .bl b := by
  unfold asB at h
  split at h
  · cases h; rfl
  · cases h
theorem sdt_test {te : TE} {f : M D} (h : Sd cf W c n te f) : SdT cf W (tTest te) (tB f) := by
  refine SdT.mk (fun R Hs env σ H F wf r d env' q Q k => ?_) (fun R Hs env σ H F wf r x env' q Q k => ?_)
  · obtain ⟨d1, env1, q1, q⟩ := bnd_ok q
    obtain ⟨qg, rfl⟩ := lift_ok q
    cases asB_some qg
    exact h.ok r q1 fun v Hs1 H1 s1 r1 p1 _ => ⟨d, p1.bl_inv, k Hs1 H1 s1 r1⟩
  · rcases bnd_ex q with q | ⟨d1, env1, q1, q⟩
    · exact h.exn r q k
    · exact (lift_ex q).elim
theorem st_cmp {op : CmpOp} {r : R2} {g : D → D → Option D} {a b : Expr} {ta tb : TE} {fa fb : M D} {pos : Pos} (ho : OpR X (compareOp op) r) (hs : Snd2 cf.K n r g) (ha : SE X cf W c n1 a ta fa) (hb : SE X cf W c n2 b tb fb) (hm : behindInMarks op b = false) : ST X cf W (.Compare a [op] [b] pos) (tTest (tOp r ta tb)) (tB (e2 g fa fb)) := ⟨pt_cmpR ho ha.p hb.p hm, sdt_test (sd_op2 hs ha.s hb.s)⟩
theorem st_val {e : Expr} {te : TE} {f : M D} (h : SE X cf W c n e te f) (he : ∀ whole, isTrue e X.env whole = (do let v ← whole; standAt e.pos; holding [v] (truthy v)) := by intro _; rfl) : ST X cf W e (L2.tB te) (tB f) := ⟨pt_val h.p he, sdt_test h.s⟩
def tAnd2 (a b : M Bool) : M Bool := bnd a fun x => if x then b else ret false
def tOr2 (a b : M Bool) : M Bool := bnd a fun x => if x then ret true else b
def tNot1 (a : M Bool) : M Bool := bnd a fun x => ret (!x)
theorem sdt_and {ta tb : TT} {fa fb : M Bool} (ha : SdT cf W ta fa) (hb : SdT cf W tb fb) : SdT cf W (tAnd ta tb) (tAnd2 fa fb) := by
  refine SdT.mk (fun R Hs env σ H F wf r d env' q Q k => ?_) (fun R Hs env σ H F wf r x env' q Q k => ?_)
  · obtain ⟨d1, env1, q1, q⟩ := bnd_ok q
    refine ha.ok r q1 fun Hs1 H1 s1 r1 => ?_
    cases d1 with
    | true => exact hb.ok r1 q fun Hs2 H2 s2 r2 => k Hs2 H2 (s1.trans s2) r2
    | false => cases q; exact k Hs1 H1 s1 r1
  · rcases bnd_ex q with q | ⟨d1, env1, q1, q⟩
    · exact ha.exn r q k
    · refine ha.ok r q1 fun Hs1 H1 s1 r1 => ?_
      cases d1 with
      | true => exact hb.exn r1 q fun Hs2 H2 s2 r2 => k Hs2 H2 (s1.trans s2) r2
      | false => cases q
theorem sdt_or {ta tb : TT} {fa fb : M Bool} (ha : SdT cf W ta fa) (hb : SdT cf W tb fb) : SdT cf W (tOr ta tb) (tOr2 fa fb) := by
  refine SdT.mk (fun R Hs env σ H F wf r d env' q Q k => ?_) (fun R Hs env σ H F wf r x env' q Q k => ?_)
  · obtain ⟨d1, env1, q1, q⟩ := bnd_ok q
    refine ha.ok r q1 fun Hs1 H1 s1 r1 => ?_
    cases d1 with
    | false => exact hb.ok r1 q fun Hs2 H2 s2 r2 => k Hs2 H2 (s1.trans s2) r2
    | true => cases q; exact k Hs1 H1 s1 r1
  · rcases bnd_ex q with q | ⟨d1, env1, q1, q⟩
    · exact ha.exn r q k
    · refine ha.ok r q1 fun Hs1 H1 s1 r1 => ?_
      cases d1 with
      | false => exact hb.exn r1 q fun Hs2 H2 s2 r2 => k Hs2 H2 (s1.trans s2) r2
      | true => cases q
theorem sdt_not {ta : TT} {fa : M Bool} (ha : SdT cf W ta fa) : SdT cf W (tNot ta) (tNot1 fa) := by
  refine SdT.mk (fun R Hs env σ H F wf r d env' q Q k => ?_) (fun R Hs env σ H F wf r x env' q Q k => ?_)
  · obtain ⟨d1, env1, q1, q⟩ := bnd_ok q
    cases q
    exact ha.ok r q1 k
  · rcases bnd_ex q with q | ⟨d1, env1, q1, q⟩
    · exact ha.exn r q k
    · cases q
theorem sw_and1 {a : Expr} {ta : TT} {fa : M Bool} {pos : Pos} (h : ST X cf W a ta fa) : SW X cf W (.BoolOp .And [a] pos) ta fa := ⟨pw_and1 h.p, h.s⟩
theorem sw_or1 {a : Expr} {ta : TT} {fa : M Bool} {pos : Pos} (h : ST X cf W a ta fa) : SW X cf W (.BoolOp .Or [a] pos) ta fa := ⟨pw_or1 h.p, h.s⟩
theorem sw_and {a b : Expr} {rest : List Expr} {ta tb : TT} {fa fb : M Bool} {pos : Pos} (h : ST X cf W a ta fa) (h2 : SW X cf W (.BoolOp .And (b :: rest) pos) tb fb) : SW X cf W (.BoolOp .And (a :: b :: rest) pos) (tAnd ta tb) (tAnd2 fa fb) := ⟨pw_and h.p h2.p, sdt_and h.s h2.s⟩
theorem sw_or {a b : Expr} {rest : List Expr} {ta tb : TT} {fa fb : M Bool} {pos : Pos} (h : ST X cf W a ta fa) (h2 : SW X cf W (.BoolOp .Or (b :: rest) pos) tb fb) : SW X cf W (.BoolOp .Or (a :: b :: rest) pos) (tOr ta tb) (tOr2 fa fb) := ⟨pw_or h.p h2.p, sdt_or h.s h2.s⟩
theorem SW.st {e : Expr} {ta : TT} {f : M Bool} (h : SW X cf W e ta f) : ST X cf W e ta f := ⟨h.p.pt, h.s⟩
theorem st_not {a : Expr} {ta : TT} {fa : M Bool} {pos : Pos} (h : ST X cf W a ta fa) : ST X cf W (.UnaryOp .Not a pos) (tNot ta) (tNot1 fa) := ⟨pt_not h.p, sdt_not h.s⟩
def eAndV (a b : M D) : M D := bnd a fun x => bnd (lift (asB x)) fun k => if k then b else ret (.bl false)
def eOrV (a b : M D) : M D := bnd a fun x => bnd (lift (asB x)) fun k => if k then ret (.bl true) else b
def eNotV (a : M D) : M D := bnd a fun x => bnd (lift (asB x)) fun k => ret (.bl (!k))
def eIfE (t : M Bool) (a b : M D) : M D := bnd t fun k => if k then a else b
theorem sd_andV {ta tb : TE} {fa fb : M D} (ha : Sd cf W c n1 ta fa) (hb : Sd cf W c n2 tb fb) : Sd cf W c n2 (tAndV ta tb) (eAndV fa fb) := by
  refine Sd.mk (fun R Hs env σ H F wf r d env' q Q k => ?_) (fun R Hs env σ H F wf r x env' q Q k => ?_)
  · obtain ⟨d1, env1, q1, q⟩ := bnd_ok q
    obtain ⟨b, env2, q2, q⟩ := bnd_ok q
    obtain ⟨qb, rfl⟩ := lift_ok q2
    cases asB_some qb
    refine ha.ok r q1 fun v Hs1 H1 s1 r1 p1 _ => ⟨b, p1.bl_inv, ?_⟩
    cases b with
    | true => exact hb.ok r1 q fun v2 Hs2 H2 s2 r2 p2 nr => k v2 Hs2 H2 (s1.trans s2) r2 (p2.mono (rg_start s1.dom)) fun z hf => (nr z hf).mono (rg_start (c := .V) (H0 := R.H0) (H := H2) (wf := wf) s1.dom)
    | false => cases q; exact k _ Hs1 H1 s1 r1 (.bl false) fun _ _ => .bl false
  · rcases bnd_ex q with q | ⟨d1, env1, q1, q⟩
    · exact ha.exn r q k
    · rcases bnd_ex q with q | ⟨b, env2, q2, q⟩
      · exact (lift_ex q).elim
      · obtain ⟨qb, rfl⟩ := lift_ok q2
        cases asB_some qb
        refine ha.ok r q1 fun v Hs1 H1 s1 r1 p1 _ => ⟨b, p1.bl_inv, ?_⟩
        cases b with
        | true => exact hb.exn r1 q fun Hs2 H2 s2 r2 => k Hs2 H2 (s1.trans s2) r2
        | false => cases q
theorem se_one {op} {a : Expr} {ta : TE} {fa : M D} {pos : Pos} (h : SE X cf W c n a ta fa) : SE X cf W c n (.BoolOp op [a] pos) ta fa := ⟨pe_one h.p, h.s⟩
theorem se_and {a b : Expr} {rest : List Expr} {ta tb : TE} {fa fb : M D} {pos : Pos} (h : SE X cf W c n1 a ta fa) (h2 : SE X cf W c n2 (.BoolOp .And (b :: rest) pos) tb fb) : SE X cf W c n2 (.BoolOp .And (a :: b :: rest) pos) (tAndV ta tb) (eAndV fa fb) := ⟨pe_and h.p h2.p, sd_andV h.s h2.s⟩
theorem se_cb {id : String} {r : List V → Hp → VK → Prop} {g : List D → Option D} {x : Str} {e : Expr} {es : List Expr} {ta : TA} {fa : M (List D)} {p pos : Pos} (hc : CallR X (.builtin id) r) (hs : SndN cf.K n r g) (hg : Gl X x) (hm : X.mg x = none) (hv : bootBuiltins x = some (.builtin id)) (ha : SA X cf W c (e :: es) ta fa)
    (hn : x ≠ "__name__" := by decide) (hdb : (x == ("__debug__" : Str)) = false := by decide) (he : starEach (e :: es) X.env = (false, eval e X.env) :: starEach es X.env := by rfl) (hpl : (backTo pos (starEach es X.env)).any (·.1) = false := by rfl) :
    SE X cf W c n (.Call (.Name x p) (e :: es) [] pos) (tCB r ta) (eN g fa) := ⟨pe_callB hc hg hm hv ha.p hn hdb he hpl, sd_opN hs ha.s⟩
theorem se_ct {T : String} {r : List V → Hp → VK → Prop} {g : List D → Option D} {x : Str} {e : Expr} {es : List Expr} {ta : TA} {fa : M (List D)} {p pos : Pos} (hc : CallR X (.type T) r) (hs : SndN cf.K n r g) (hg : Gl X x) (hm : X.mg x = none) (hv : bootBuiltins x = some (.type T)) (ha : SA X cf W c (e :: es) ta fa)
    (hn : x ≠ "__name__" := by decide) (hdb : (x == ("__debug__" : Str)) = false := by decide) (he : starEach (e :: es) X.env = (false, eval e X.env) :: starEach es X.env := by rfl) (hpl : (backTo pos (starEach es X.env)).any (·.1) = false := by rfl) :
    SE X cf W c n (.Call (.Name x p) (e :: es) [] pos) (tCB r ta) (eN g fa) := ⟨pe_callTy hc hg hm hv ha.p hn hdb he hpl, sd_opN hs ha.s⟩
end
end MV
namespace MV
open PySem L2
abbrev LIM : Nat := 100000
theorem lim_sz {n : Nat} (h : n ≤ LIM) : n ≤ sizeLine := Nat.le_trans h (by decide)
theorem lim_lt {n : Nat} (h : n < LIM) : n < sizeLine := Nat.lt_of_lt_of_le h (by decide)
section
variable {K : PySem.W.Frag} {G H : Hp} {n : Bool} {d : D} {v : V} {Q : VK}
theorem k_sc (k : ∀ v H', Ex H H' → Rp K true (grow G H H') v d → Nn K n H H' v d → Q v H') (h : d.toV = some v) : Q v H := k v H (Ex.refl H) (.sc h) fun _ _ => .sc h
end
def gI2 (f : Int → Int → Option D) : D → D → Option D
  | .int i, .int j => f i j
  | _, _ => none
theorem gI2_some {f : Int → Int → Option D} {x y d : D} (h : gI2 f x y = some d) : ∃ i j, x = .int i ∧ y = .int j ∧ f i j = some d := by
  unfold gI2 at h
  split at h
  · exact ⟨_, _, rfl, rfl, h⟩
  · cases h
theorem snd_rI {K : PySem.W.Frag} {C : Int → Int → Prop} [∀ i j, Decidable (C i j)] {g : Int → Int → V} {g' : Int → Int → D} (hg : ∀ i j, (g' i j).toV = some (g i j)) : Snd2 K true (rI C g) (gI2 fun i j => if C i j then some (g' i j) else none) := fun G H x y d1 d2 d e h1 h2 q Q k => by
  obtain ⟨i, j, rfl, rfl, qq⟩ := gI2_some q
  split at qq
  · cases qq
    rename_i hc
    exact ⟨i, j, h1.int_inv, h2.int_inv, hc, k_sc k (hg i j)⟩
  · cases qq
theorem snd_rI0 {K : PySem.W.Frag} {g : Int → Int → V} {g' : Int → Int → D} (hg : ∀ i j, (g' i j).toV = some (g i j)) : Snd2 K true (rI0 g) (gI2 fun i j => some (g' i j)) := fun G H x y d1 d2 d e h1 h2 q Q k => by
  obtain ⟨i, j, rfl, rfl, qq⟩ := gI2_some q
  cases qq
  exact ⟨i, j, h1.int_inv, h2.int_inv, k_sc k (hg i j)⟩
instance {i j : Int} : Decidable (CDiv i j) := by unfold CDiv; infer_instance
instance {i j : Int} : Decidable (CPow i j) := by unfold CPow; infer_instance
instance {i j : Int} : Decidable (CMul i j) := by unfold CMul; infer_instance
def gSub := gI2 fun i j => some (.int (i - j))
def divW (j : Int) : Bool := decide (0 < j) && decide (j.natAbs.log2 < 9000)
def gFdiv := gI2 fun i j => if CDiv i j ∨ divW j = true then some (.int (i / j)) else none
def gMod := gI2 fun i j => if 0 < j then some (.int (i % j)) else none
def gPow := gI2 fun i j => if CPow i j then some (.int (i ^ j.toNat)) else none
def gShr := gI2 fun i j => if 0 ≤ j then some (.int (i / 2 ^ j.toNat)) else none
def gShl := gI2 fun i j => if CPow i j then some (.int (i * 2 ^ j.toNat)) else none
def gLt := gI2 fun i j => some (.bl (decide (i < j)))
def gLe := gI2 fun i j => some (.bl (decide (i ≤ j)))
def gGt := gI2 fun i j => some (.bl (decide (j < i)))
def gGe := gI2 fun i j => some (.bl (decide (j ≤ i)))
section
variable {K : PySem.W.Frag}
theorem snd_sub : Snd2 K true (rI0 fun i j => .int (i - j)) gSub := snd_rI0 fun _ _ => rfl
def rFdiv : R2 := fun x y H Q => rI CDiv (fun i j => .int (i / j)) x y H Q ∨ rI CDivW (fun i j => .int (i / j)) x y H Q
theorem snd_fdiv : Snd2 K true rFdiv gFdiv := fun G H x y d1 d2 d e h1 h2 q Q k => by
  obtain ⟨i, j, rfl, rfl, qq⟩ := gI2_some q
  split at qq
  · cases qq
    rename_i hc
    rcases hc with hc | hc
    · exact .inl ⟨i, j, h1.int_inv, h2.int_inv, hc, k_sc k rfl⟩
    · unfold divW at hc
      rw [Bool.and_eq_true] at hc
      exact .inr ⟨i, j, h1.int_inv, h2.int_inv, ⟨of_decide_eq_true hc.1, of_decide_eq_true hc.2⟩, k_sc k rfl⟩
  · cases qq
theorem snd_mod : Snd2 K true (rI (fun _ j => 0 < j) fun i j => .int (i % j)) gMod := snd_rI (C := fun _ j => 0 < j) fun _ _ => rfl
theorem snd_pow : Snd2 K true (rI CPow fun i j => .int (i ^ j.toNat)) gPow := snd_rI fun _ _ => rfl
theorem snd_lt : Snd2 K true (rI0 fun i j => .bl (decide (i < j))) gLt := snd_rI0 fun _ _ => rfl
theorem snd_le : Snd2 K true (rI0 fun i j => .bl (decide (i ≤ j))) gLe := snd_rI0 fun _ _ => rfl
theorem snd_gt : Snd2 K true (rI0 fun i j => .bl (decide (j < i))) gGt := snd_rI0 fun _ _ => rfl
theorem snd_ge : Snd2 K true (rI0 fun i j => .bl (decide (j ≤ i))) gGe := snd_rI0 fun _ _ => rfl
end
theorem gI2_sc {f : Int → Int → Option D} (hf : ∀ i j d, f i j = some d → d.sc = true) {a b : M D} : ScF (e2 (gI2 f) a b) := fun env d env' q => by
  obtain ⟨d1, env1, q1, q⟩ := bnd_ok q
  obtain ⟨d2, env2, q2, q⟩ := bnd_ok q
  obtain ⟨qg, rfl⟩ := lift_ok q
  obtain ⟨i, j, _, _, q⟩ := gI2_some qg
  exact hf i j d q
theorem e2_sc {g : D → D → Option D} (hg : ∀ x y d, g x y = some d → d.sc = true) {a b : M D} : ScF (e2 g a b) := fun env d env' q => by
  obtain ⟨d1, env1, q1, q⟩ := bnd_ok q
  obtain ⟨d2, env2, q2, q⟩ := bnd_ok q
  obtain ⟨qg, rfl⟩ := lift_ok q
  exact hg _ _ _ qg
theorem e1_sc {g : D → Option D} (hg : ∀ x d, g x = some d → d.sc = true) {a : M D} : ScF (e1 g a) := fun env d env' q => by
  obtain ⟨d1, env1, q1, q⟩ := bnd_ok q
  obtain ⟨qg, rfl⟩ := lift_ok q
  exact hg _ _ qg
theorem eN_sc {g : List D → Option D} (hg : ∀ x d, g x = some d → d.sc = true) {a : M (List D)} : ScF (eN g a) := fun env d env' q => by
  obtain ⟨d1, env1, q1, q⟩ := bnd_ok q
  obtain ⟨qg, rfl⟩ := lift_ok q
  exact hg _ _ qg
def gAdd : D → D → Option D
  | .int i, .int j => some (.int (i + j))
  | .str a, .str b => if a.length + b.length ≤ LIM then some (.str (a ++ b)) else none
  | .lst a, .lst b => if a.length + b.length ≤ LIM then some (.lst (a ++ b)) else none
  | _, _ => none
def rAdd3 : R2 := fun x y H Q => rI0 (fun i j => .int (i + j)) x y H Q ∨ (∃ i j, x = .str i ∧ y = .str j ∧ i.length + j.length ≤ sizeLine ∧ Q (.str (i ++ j)) H) ∨ rCat x y H Q
theorem op_add3 {X : Cx} : OpR X (binaryOp .Add) rAdd3 := op_add.or (op_add_str.or op_cat)
theorem snd_add {K : PySem.W.Frag} : Snd2 K true rAdd3 gAdd := fun G H x y d1 d2 d e h1 h2 q Q k => by
  unfold gAdd at q
  split at q
  · cases q; exact .inl ⟨_, _, h1.int_inv, h2.int_inv, k_sc k rfl⟩
  · split at q
    · cases q
      rename_i hl
      exact .inr (.inl ⟨_, _, h1.str_inv, h2.str_inv, lim_sz hl, k_sc k rfl⟩)
    · cases q
  · split at q
    · cases q
      rename_i hl
      obtain ⟨a, xs, rfl, s1, r1⟩ := h1.lst_inv
      obtain ⟨b, ys, rfl, s2, r2⟩ := h2.lst_inv
      refine .inr (.inr ⟨a, b, xs, ys, rfl, rfl, e _ _ s1, e _ _ s2, by rw [r1.length, r2.length]; exact lim_sz hl, fun p hp => k _ _ (Ex.new hp) (new_rp e hp (r1.append r2)) (new_nn hp (r1.append r2))⟩)
    · cases q
  · cases q
theorem RpL.rep {K : PySem.W.Frag} {x : Bool} {G : Hp} {vs : List V} {ds : List D} (h : RpL K x G vs ds) : ∀ k : Nat, RpL K x G (List.replicate k vs).flatten (List.replicate k ds).flatten
  | 0 => .nil
  | k + 1 => by
    rw [List.replicate_succ, List.replicate_succ, List.flatten_cons, List.flatten_cons]
    exact h.append (RpL.rep h k)
def repS (z : Str) (n : Nat) : Str := ⟨(List.replicate n z.cps.toList).flatten.toArray⟩
theorem foldl_cps (a : Array Nat) : ∀ (n : Nat) (b : Array Nat), ((List.replicate n a).foldl (· ++ ·) b) = b ++ (List.replicate n a.toList).flatten.toArray
  | 0, b => by simp
  | n + 1, b => by
    rw [List.replicate_succ, List.foldl_cons, foldl_cps a n, List.replicate_succ, List.flatten_cons]
    apply Array.ext'
    simp
def rSRep : R2 := fun x y H Q => ∃ (z : Str) (k : Int), x = .str z ∧ y = .int k ∧ -(2 ^ 63) ≤ k ∧ k < 2 ^ 31 ∧ z.length * k.toNat ≤ LIM ∧ Q (.str (repS z k.toNat)) H
theorem op_srep {X : Cx} : OpR X (binaryOp .Mult) rSRep := by
  intro pp s σ H x y v u Q I rx ry h
  obtain ⟨z, k, rfl, rfl, h1, h2, h3, q⟩ := h
  obtain ⟨t, rfl⟩ := rx
  obtain ⟨t', rfl⟩ := ry
  have hL : (LIM : Nat) = 100000 := rfl
  refine PySem.P.mul_str ?_ (fun hn _ => ?_) (fun hn _ => ?_) ?_
  · rw [decide_eq_false (by omega), decide_eq_false (by omega)]; rfl
  · have hk : (k.toNat : Int) = k := Int.toNat_of_nonneg (by omega)
    have : (z.length : Int) ≤ (2 ^ 63 - 1) / k := by
      apply Int.le_ediv_of_mul_le (by omega)
      rw [← hk]
      have : ((z.length * k.toNat : Nat) : Int) ≤ 100000 := by omega
      rw [Int.natCast_mul] at this
      omega
    omega
  · unfold PySem.Builtin.Str.tooLong
    exact decide_eq_false (by have : (100000 : Nat) ≤ sizeLine := by decide
                              omega)
  · split
    · rename_i hn
      have e : k.toNat = 0 := by omega
      rw [e] at q
      exact ⟨by decide, .str (repS z 0), H, I.tok _, ⟨_, rfl⟩, q⟩
    · rename_i hn
      split
      · rename_i hc
        rw [Bool.or_eq_true] at hc
        have e : repS z k.toNat = z := by
          rcases hc with hc | hc
          · have : k = 1 := by simpa using hc
            subst this
            unfold repS
            show (⟨([z.cps.toList] : List (List Nat)).flatten.toArray⟩ : Str) = z
            simp
          · have h0 : z.cps.toList = [] := by
              have : z.length = 0 := by simpa using hc
              apply List.eq_nil_of_length_eq_zero
              rw [Array.length_toList]; exact this
            unfold repS
            rw [h0]
            have : ∀ n : Nat, (List.replicate n ([] : List Nat)).flatten = [] := fun n => by simp
            rw [this]
            obtain ⟨⟨l⟩⟩ := z
            simp at h0
            rw [h0]
        rw [e] at q
        exact ⟨.str z, H, I, ⟨_, rfl⟩, q⟩
      · have e : (⟨(List.replicate k.toNat z.cps).foldl (· ++ ·) #[]⟩ : Str) = repS z k.toNat := by
          unfold repS
          rw [foldl_cps]
          simp
        rw [e]
        refine ⟨?_, .str (repS z k.toNat), H, I.tok _, ⟨_, rfl⟩, q⟩
        show (repS z k.toNat).cps.size ≤ sizeLine
        unfold repS
        rw [List.size_toArray, List.length_flatten, List.map_replicate, List.sum_replicate_nat, Array.length_toList]
        have hz : z.cps.size = z.length := rfl
        have : (100000 : Nat) ≤ sizeLine := by decide
        rw [hz, Nat.mul_comm]
        omega
def mulOk (i j : Int) : Bool := decide (CMul i j) || decide (i.natAbs.log2 + j.natAbs.log2 < 1000000)
def gMul : D → D → Option D
  | .int i, .int j => if mulOk i j then some (.int (i * j)) else none
  | .lst a, .int k => if a.length * k.toNat ≤ LIM ∧ -(2 ^ 63) ≤ k ∧ k < 2 ^ 63 then some (.lst (List.replicate k.toNat a).flatten) else none
  | .str z, .int k => if z.length * k.toNat ≤ LIM ∧ -(2 ^ 63) ≤ k ∧ k < 2 ^ 31 then some (.str (repS z k.toNat)) else none
  | _, _ => none
def rMul2 : R2 := fun x y H Q => rSRep x y H Q ∨ (rI CMul (fun i j => .int (i * j)) x y H Q ∨ rI CMulW (fun i j => .int (i * j)) x y H Q) ∨ rRep x y H Q
theorem op_mul2 {X : Cx} : OpR X (binaryOp .Mult) rMul2 := op_srep.or ((op_mul.or op_mulW).or op_rep)
theorem snd_mul {K : PySem.W.Frag} : Snd2 K true rMul2 gMul := fun G H x y d1 d2 d e h1 h2 q Q k => by
  unfold gMul at q
  split at q
  · split at q
    · cases q
      rename_i hc
      rcases Bool.or_eq_true_iff.mp hc with hc | hc
      · exact .inr (.inl (.inl ⟨_, _, h1.int_inv, h2.int_inv, of_decide_eq_true hc, k_sc k rfl⟩))
      · exact .inr (.inl (.inr ⟨_, _, h1.int_inv, h2.int_inv, (by unfold CMulW; exact of_decide_eq_true hc), k_sc k rfl⟩))
    · cases q
  · split at q
    · cases q
      rename_i hc
      obtain ⟨hc, hk1, hk2⟩ := hc
      obtain ⟨a, xs, rfl, s1, r1⟩ := h1.lst_inv
      refine .inr (.inr ⟨a, _, xs, rfl, h2.int_inv, e _ _ s1, hk1, hk2, by rw [r1.length]; exact lim_sz hc, fun p hp => k _ _ (Ex.new hp) (new_rp e hp (r1.rep _)) (new_nn hp (r1.rep _))⟩)
    · cases q
  · split at q
    · cases q
      rename_i hc
      obtain ⟨hc, hk1, hk2⟩ := hc
      exact .inl ⟨_, _, h1.str_inv, h2.int_inv, hk1, hk2, hc, k_sc k rfl⟩
    · cases q
  · cases q
def gNeg : D → Option D
  | .int i => some (.int (-i))
  | _ => none
theorem snd_neg {K : PySem.W.Frag} : Snd1 K true (rU fun i => .int (-i)) gNeg := fun G H x d1 d e h1 q Q k => by
  unfold gNeg at q
  split at q
  · cases q; exact ⟨_, h1.int_inv, k_sc k rfl⟩
  · cases q
mutual
def D.toP : D → Option PyData
  | .non => some .none
  | .bl b => some (.bool b)
  | .int i => some (.int i)
  | .str x => some (.str x)
  | .lst xs => (toPs xs).map .list
  | .tup xs => (toPs xs).map .tuple
  | _ => none
def toPs : List D → Option (List PyData)
  | [] => some []
  | x :: xs => match D.toP x, toPs xs with
    | some a, some b => some (a :: b)
    | _, _ => none
end
mutual
theorem Rp.dp {K : PySem.W.Frag} {G H : Hp} (e : Ex G H) : ∀ {v : V} {d : D} {p : PyData}, Rp K true G v d → d.toP = some p → Dp K H v p
  | _, .non, _, h, q => by cases q; rw [h.non_inv]; exact .non
  | _, .bl b, _, h, q => by cases q; rw [h.bl_inv]; exact .bl b
  | _, .int i, _, h, q => by cases q; rw [h.int_inv]; exact .int i
  | _, .str x, _, h, q => by cases q; rw [h.str_inv]; exact .str x
  | _, .lst ds, p, h, q => by
    cases h with
    | sc z => cases z
    | lst s r =>
      rw [D.toP] at q
      cases z : toPs ds with
      | none => rw [z] at q; cases q
      | some ps =>
        rw [z] at q
        cases q
        exact .lst (.inl (.inl (e _ _ s))) (RpL.dp e r z)
  | _, .tup ds, p, h, q => by
    cases h with
    | sc z => cases z
    | tup s r =>
      rw [D.toP] at q
      cases z : toPs ds with
      | none => rw [z] at q; cases q
      | some ps =>
        rw [z] at q
        cases q
        exact .tup (.inl (.inl (e _ _ s))) (RpL.dp e r z)
  | _, .dic _, _, _, q => by rw [D.toP] at q <;> first | cases q | (intros; rintro ⟨⟩)
  | _, .dit _, _, _, q => by rw [D.toP] at q <;> first | cases q | (intros; rintro ⟨⟩)
  | _, .exc _, _, _, q => by rw [D.toP] at q <;> first | cases q | (intros; rintro ⟨⟩)
theorem RpL.dp {K : PySem.W.Frag} {G H : Hp} (e : Ex G H) : ∀ {vs : List V} {ds : List D} {ps : List PyData}, RpL K true G vs ds → toPs ds = some ps → DpAll K H vs ps
  | _, _, _, .nil, q => by rw [toPs] at q; cases q; exact .nil
  | _, d :: ds, ps, .cons h r, q => by
    rw [toPs] at q
    cases z1 : D.toP d with
    | none => rw [z1] at q; cases q
    | some a =>
      cases z2 : toPs ds with
      | none => rw [z1, z2] at q; cases q
      | some b =>
        rw [z1, z2] at q
        cases q
        exact .cons (Rp.dp e h z1) (RpL.dp e r z2)
end
def deq (a b : D) : Option Bool := match a, b with
  | .int i, .int j => some (decide (i = j))
  | .str x, .str y => some (decide (x = y))
  | a, b => match a.toP, b.toP with
    | some p, some q => if SeqAt.shaped p && SeqAt.shaped q then some (PyData.eqv p q) else none
    | _, _ => none
def gEq (a b : D) : Option D := (deq a b).map .bl
def gNe (a b : D) : Option D := (deq a b).map fun k => .bl (!k)
def rEq2 (K : PySem.W.Frag) : R2 := fun x y H Q => rEq x y H Q ∨ rEqD K x y H Q
def rNe2 (K : PySem.W.Frag) : R2 := fun x y H Q => rNe x y H Q ∨ rNeD K x y H Q
theorem op_eq2 {X : Cx} (hu : X.A.units + 64 < cLine) : OpR X (compareOp .Eq) (rEq2 X.K) := op_eq.or (op_eqD hu)
theorem op_ne2 {X : Cx} (hu : X.A.units + 64 < cLine) : OpR X (compareOp .NotEq) (rNe2 X.K) := op_ne.or (op_neD hu)
theorem deq_cases {K : PySem.W.Frag} {G H : Hp} {x y : V} {a b : D} {k : Bool} (e : Ex G H) (h1 : Rp K true G x a) (h2 : Rp K true G y b) (q : deq a b = some k) :
    (scal x y = true ∧ decide (x = y) = k) ∨ ∃ p p', Dp K H x p ∧ Dp K H y p' ∧ SeqAt.shaped p = true ∧ SeqAt.shaped p' = true ∧ PyData.eqv p p' = k := by
  unfold deq at q
  split at q
  · cases q
    rw [h1.int_inv, h2.int_inv]
    refine .inl ⟨rfl, ?_⟩
    rw [Bool.eq_iff_iff]; simp
  · cases q
    rw [h1.str_inv, h2.str_inv]
    refine .inl ⟨rfl, ?_⟩
    rw [Bool.eq_iff_iff]; simp
  · split at q
    · split at q
      · cases q
        rename_i p p' z1 z2 hs
        rw [Bool.and_eq_true] at hs
        exact .inr ⟨p, p', h1.dp e z1, h2.dp e z2, hs.1, hs.2, rfl⟩
      · cases q
    · cases q
theorem snd_eq {K : PySem.W.Frag} : Snd2 K true (rEq2 K) gEq := fun G H x y d1 d2 d e h1 h2 q Q k => by
  unfold gEq at q
  cases z : deq d1 d2 with
  | none => rw [z] at q; cases q
  | some b =>
    rw [z] at q
    cases q
    rcases deq_cases e h1 h2 z with ⟨s, t⟩ | ⟨p, p', a1, a2, a3, a4, t⟩
    · exact .inl ⟨s, by rw [t]; exact k_sc k rfl⟩
    · exact .inr ⟨p, p', a1, a2, a3, a4, by rw [t]; exact k_sc k rfl⟩
theorem snd_ne {K : PySem.W.Frag} : Snd2 K true (rNe2 K) gNe := fun G H x y d1 d2 d e h1 h2 q Q k => by
  unfold gNe at q
  cases z : deq d1 d2 with
  | none => rw [z] at q; cases q
  | some b =>
    rw [z] at q
    cases q
    rcases deq_cases e h1 h2 z with ⟨s, t⟩ | ⟨p, p', a1, a2, a3, a4, t⟩
    · exact .inl ⟨s, by rw [t]; exact k_sc k rfl⟩
    · exact .inr ⟨p, p', a1, a2, a3, a4, by rw [t]; exact k_sc k rfl⟩
def isNon : D → Option Bool
  | .non => some true
  | _ => some false
theorem isNon_v {K : PySem.W.Frag} {G : Hp} {x : V} {d : D} {k : Bool} (h : Rp K true G x d) (q : isNon d = some k) : decide (x = .non) = k := by
  cases h with
  | sc z => cases d <;> cases q <;> cases z <;> rfl
  | lst _ _ => cases q; rfl
  | tup _ _ => cases q; rfl
  | dic _ _ _ => cases q; rfl
  | dit _ _ _ => cases q; rfl
  | exc _ => cases q; rfl
def gIsN (a b : D) : Option D := match b with
  | .non => (isNon a).map .bl
  | _ => none
def gNotN (a b : D) : Option D := match b with
  | .non => (isNon a).map fun k => .bl (!k)
  | _ => none
theorem snd_isN {K : PySem.W.Frag} : Snd2 K true (fun x y H Q => y = .non ∧ Q (.bl (decide (x = .non))) H) gIsN := fun G H x y d1 d2 d e h1 h2 q Q k => by
  unfold gIsN at q
  split at q
  · cases z : isNon d1 with
    | none => rw [z] at q; cases q
    | some b => rw [z] at q; cases q; exact ⟨h2.non_inv, by rw [isNon_v h1 z]; exact k_sc k rfl⟩
  · cases q
theorem snd_notN {K : PySem.W.Frag} : Snd2 K true (fun x y H Q => y = .non ∧ Q (.bl (!decide (x = .non))) H) gNotN := fun G H x y d1 d2 d e h1 h2 q Q k => by
  unfold gNotN at q
  split at q
  · cases z : isNon d1 with
    | none => rw [z] at q; cases q
    | some b => rw [z] at q; cases q; exact ⟨h2.non_inv, by rw [isNon_v h1 z]; exact k_sc k rfl⟩
  · cases q
theorem atI_rp {K : PySem.W.Frag} {x : Bool} {G : Hp} {xs : List V} {ds : List D} {i : Int} {d : D} (h : RpL K x G xs ds) (q : atI ds i = some d) : ∃ v, atI xs i = some v ∧ Rp K x G v d := by
  unfold atI at q ⊢
  rw [h.length]
  cases z : ixN ds.length i with
  | none => rw [z] at q; cases q
  | some j =>
    rw [z] at q
    exact h.get q
def gIx : D → D → Option D
  | .lst ds, .int i => atI ds i
  | .tup ds, .int i => atI ds i
  | .str z, .int i => if z.length ≤ LIM then (atI z.cps.toList i).map fun c => .str ⟨#[c]⟩ else none
  | _, _ => none
theorem snd_ix {K : PySem.W.Frag} : Snd2 K false (rIx K) gIx := fun G H x y d1 d2 d e h1 h2 q Q k => by
  unfold gIx at q
  split at q
  · obtain ⟨a, xs, rfl, s1, r1⟩ := h1.lst_inv
    obtain ⟨v, hv, hr⟩ := atI_rp r1 q
    exact .inl ⟨a, xs, _, v, rfl, h2.int_inv, .inl (.inl (e _ _ s1)), hv, k v H (Ex.refl H) (hr.mono (Ex.grow e (Ex.refl H))) fun z => by cases z⟩
  · obtain ⟨a, xs, rfl, s1, r1⟩ := h1.tup_inv
    obtain ⟨v, hv, hr⟩ := atI_rp r1 q
    exact .inr (.inl ⟨a, xs, _, v, rfl, h2.int_inv, .inl (.inl (e _ _ s1)), hv, k v H (Ex.refl H) (hr.mono (Ex.grow e (Ex.refl H))) fun z => by cases z⟩)
  · split at q
    · rename_i z i hl
      cases zz : atI z.cps.toList i with
      | none => rw [zz] at q; cases q
      | some c =>
        rw [zz] at q
        cases q
        exact .inr (.inr ⟨_, _, c, h1.str_inv, h2.int_inv, lim_sz hl, zz, k_sc k rfl⟩)
    · cases q
  · cases q
theorem se_ix {X : Cx} {cf : Cf} {W : WX} {c : Cls} {n1 n2 : Bool} {a b : Expr} {ta tb : TE} {fa fb : M D} {pos : Pos} (hK : cf.K = X.K) (ha : SE X cf W c n1 a ta fa) (hb : SE X cf W c n2 b tb fb) (hs : PlainIx b) : SE X cf W c false (.Subscript a b pos) (tOp (rIx cf.K) ta tb) (e2 gIx fa fb) := by
  refine ⟨?_, sd_op2 snd_ix ha.s hb.s⟩
  rw [hK]
  exact pe_ix ix_seq ha.p hb.p hs
def asI : D → Option (Option Int)
  | .int i => some (some i)
  | _ => none
def oNone : M (Option Int) := ret none
def oSome (f : M D) : M (Option Int) := bnd f fun d => lift (asI d)
def cutA {α : Type} (xs : List α) (lo hi : Option Int) : List α := (xs.drop (HT.sIx xs.length 0 lo)).take (HT.sIx xs.length xs.length hi - HT.sIx xs.length 0 lo)
def gSl : D → Option Int → Option Int → Option D
  | .lst ds, l, h => some (.lst (cutA ds l h))
  | .str z, l, h => if z.length ≤ LIM then some (.str (cutS z l h)) else none
  | _, _, _ => none
def eSl (f : M D) (lo hi : M (Option Int)) : M D := bnd f fun x => bnd lo fun l => bnd hi fun h => lift (gSl x l h)
def SdO (cf : Cf) (W : WX) (to : TO) (f : M (Option Int)) : Prop :=
  ∀ (R : Rs) (Hs : Hp) (env : PEnv) (σ : L2.St) (H : Hp) (F : Nat → List Addr) (wf : List Addr), Rel cf R Hs env σ H F wf → ∀ Q : Option Int → Hp → Prop,
    match f env with
    | .ok o env' => (∀ Hs' H', Stp cf wf env Hs H env' Hs' H' → Rel cf R Hs' env' σ H' F wf → Q o H') → to σ H Q
    | .ex x env' => (∀ Hs' H', Stp cf wf env Hs H env' Hs' H' → Rel cf R Hs' env' σ H' F wf → W (cf.cv x) none σ H') → to σ H Q
    | .stuck => True
structure SO (X : Cx) (cf : Cf) (W : WX) (e : Option Expr) (t : TO) (f : M (Option Int)) : Prop where
  p : PO X e t
  s : SdO cf W t f
section
variable {X : Cx} {cf : Cf} {W : WX} {c : Cls} {n n1 n2 : Bool}
theorem so_none : SO X cf W none tNoPart oNone := ⟨po_none, fun R Hs env σ H F wf r Q k => k Hs H Stp.refl r⟩
theorem so_some {e : Expr} {te : TE} {f : M D} (h : SE X cf W c n e te f) : SO X cf W (some e) (tPart te) (oSome f) := by
  obtain ⟨p, s⟩ := h
  refine ⟨po_some p, fun R Hs env σ H F wf r Q => ?_⟩
  cases q : oSome f env with
  | ok o env' =>
    intro k
    obtain ⟨d, env1, q1, q⟩ := bnd_ok q
    obtain ⟨qg, rfl⟩ := lift_ok q
    unfold asI at qg
    split at qg
    · cases qg
      exact s.ok r q1 fun v Hs1 H1 s1 r1 p1 _ => ⟨_, p1.int_inv, k Hs1 H1 s1 r1⟩
    · cases qg
  | ex x env' =>
    intro k
    rcases bnd_ex q with q | ⟨d1, env1, q1, q⟩
    · exact s.exn r q k
    · exact (lift_ex q).elim
  | stuck => trivial
theorem SdO.ok {to : TO} {f : M (Option Int)} {R : Rs} {Hs : Hp} {env env' : PEnv} {σ : L2.St} {H : Hp} {F : Nat → List Addr} {wf : List Addr} (s : SdO cf W to f) (r : Rel cf R Hs env σ H F wf) {d : Option Int} (q : f env = .ok d env') {Q : Option Int → Hp → Prop} (k : ∀ Hs' H', Stp cf wf env Hs H env' Hs' H' → Rel cf R Hs' env' σ H' F wf → Q d H') : to σ H Q := by
  have h := s R Hs env σ H F wf r Q
  rw [q] at h
  exact h k
theorem SdO.exn {to : TO} {f : M (Option Int)} {R : Rs} {Hs : Hp} {env env' : PEnv} {σ : L2.St} {H : Hp} {F : Nat → List Addr} {wf : List Addr} (s : SdO cf W to f) (r : Rel cf R Hs env σ H F wf) {x : Str} (q : f env = .ex x env') {Q : Option Int → Hp → Prop} (k : ∀ Hs' H', Stp cf wf env Hs H env' Hs' H' → Rel cf R Hs' env' σ H' F wf → W (cf.cv x) none σ H') : to σ H Q := by
  have h := s R Hs env σ H F wf r Q
  rw [q] at h
  exact h k
theorem cutV_rp {K : PySem.W.Frag} {x : Bool} {G : Hp} {xs : List V} {ds : List D} (h : RpL K x G xs ds) (lo hi : Option Int) : RpL K x G (cutV xs lo hi) (cutA ds lo hi) := by
  unfold cutV cutA
  rw [h.length]
  exact (h.drop _).take _
def rSl2 (K : PySem.W.Frag) : V → Option Int → Option Int → Hp → VK → Prop := fun x lo hi H Q => rSlL K x lo hi H Q ∨ rSlS x lo hi H Q
theorem snd_sl {K : PySem.W.Frag} {G H : Hp} {x : V} {d1 d : D} {l h : Option Int} (e : Ex G H) (h1 : Rp K true G x d1) (q : gSl d1 l h = some d) (Q : VK) (k : ∀ v H', Ex H H' → Rp K true (grow G H H') v d → Nn K true H H' v d → Q v H') : rSl2 K x l h H Q := by
  unfold gSl at q
  split at q
  · cases q
    obtain ⟨a, xs, rfl, s1, r1⟩ := h1.lst_inv
    exact .inl ⟨a, xs, rfl, .inl (.inl (e _ _ s1)), fun p hp => k _ _ (Ex.new hp) (new_rp e hp (cutV_rp r1 _ _)) (new_nn hp (cutV_rp r1 _ _))⟩
  · split at q
    · cases q
      rename_i hl
      exact .inr ⟨_, h1.str_inv, lim_sz hl, k_sc k rfl⟩
    · cases q
  · cases q
theorem se_sl {e : Expr} {lo hi : Option Expr} {te : TE} {tl th : TO} {f : M D} {fl fh : M (Option Int)} {p2 pos : Pos} (hK : cf.K = X.K) (h : SE X cf W c n1 e te f) (hl : SO X cf W lo tl fl) (hh : SO X cf W hi th fh) : SE X cf W c true (.Subscript e (.Slice lo hi none p2) pos) (tSl (rSl2 cf.K) te tl th) (eSl f fl fh) := by
  rw [hK]
  obtain ⟨p, s⟩ := h
  obtain ⟨p2, s2⟩ := hl
  obtain ⟨p3, s3⟩ := hh
  refine ⟨pe_slice (r := rSl2 X.K) (sl_list.or sl_str) p p2 p3, Sd.mk (fun R Hs env σ H F wf r d env' q Q k => ?_) (fun R Hs env σ H F wf r x env' q Q k => ?_)⟩
  · obtain ⟨d1, env1, q1, q⟩ := bnd_ok q
    obtain ⟨d2, env2, q2, q⟩ := bnd_ok q
    obtain ⟨d3, env3, q3, q⟩ := bnd_ok q
    obtain ⟨qg, rfl⟩ := lift_ok q
    exact s.ok r q1 fun v Hs1 H1 s1 r1 p1 _ => s2.ok r1 q2 fun Hs2 H2 s2 r2 => s3.ok r2 q3 fun Hs3 H3 s3 r3 => by
      show rSl2 X.K v d2 d3 H3 Q
      rw [← hK]
      exact snd_sl (rg_sub (H0 := R.H0) (Hst := H) (c := c) (wf := wf) r3.exs) ((p1.mono (rg_step s2)).mono (rg_step s3)) qg Q fun v4 H4 x p nn => fin_op ((s1.trans s2).trans s3) r3 x p nn k
  · rcases bnd_ex q with q | ⟨d1, env1, q1, q⟩
    · exact s.exn r q k
    · rcases bnd_ex q with q | ⟨d2, env2, q2, q⟩
      · exact s.ok r q1 fun v Hs1 H1 s1 r1 p1 _ => s2.exn r1 q fun Hs2 H2 s2 r2 => k Hs2 H2 (s1.trans s2) r2
      · rcases bnd_ex q with q | ⟨d3, env3, q3, q⟩
        · exact s.ok r q1 fun v Hs1 H1 s1 r1 p1 _ => s2.ok r1 q2 fun Hs2 H2 s2 r2 => s3.exn r2 q fun Hs3 H3 s3 r3 => k Hs3 H3 ((s1.trans s2).trans s3) r3
        · exact (lift_ex q).elim
def gRev : D → Option D
  | .lst ds => some (.lst ds.reverse)
  | _ => none
theorem snd_rev {K : PySem.W.Frag} : Snd1 K true (fun x H1 Q => ∃ a xs, x = .ref a ∧ SqL K H1 a xs ∧ ∀ p, H1 p = none → Q (.ref p) (upd H1 p (.lst xs.reverse))) gRev := fun G H x d1 d e h1 q Q k => by
  unfold gRev at q
  split at q
  · cases q
    obtain ⟨a, xs, rfl, s1, r1⟩ := h1.lst_inv
    exact ⟨a, xs, rfl, .inl (.inl (e _ _ s1)), fun p hp => k _ _ (Ex.new hp) (new_rp e hp r1.rev) (new_nn hp r1.rev)⟩
  · cases q
theorem se_rev {e : Expr} {te : TE} {f : M D} {k : Nat} {p1 p2 p3 pos : Pos} (hK : cf.K = X.K) (h : SE X cf W c n1 e te f) : SE X cf W c true (.Subscript e (.Slice none none (some (.UnaryOp .USub (.Constant (.int 1) k p1) p2)) p3) pos) (tRevL cf.K te) (e1 gRev f) := by
  rw [hK]
  obtain ⟨p, s⟩ := h
  exact ⟨pe_revL p, sd_op1 (r := fun x H1 Q => ∃ a xs, x = .ref a ∧ SqL X.K H1 a xs ∧ ∀ p, H1 p = none → Q (.ref p) (upd H1 p (.lst xs.reverse))) (by rw [← hK]; exact snd_rev) s⟩
end
def gLen : List D → Option D
  | [.lst ds] => some (.int ds.length)
  | [.tup ds] => some (.int ds.length)
  | [.str z] => if z.length ≤ LIM then some (.int z.length) else none
  | _ => none
theorem RpL.one {K : PySem.W.Frag} {x : Bool} {G : Hp} {xs : List V} {d : D} (h : RpL K x G xs [d]) : ∃ v, xs = [v] ∧ Rp K x G v d := by
  cases h with
  | cons h r => cases r; exact ⟨_, rfl, h⟩
theorem RpL.two {K : PySem.W.Frag} {x : Bool} {G : Hp} {xs : List V} {d e : D} (h : RpL K x G xs [d, e]) : ∃ v w, xs = [v, w] ∧ Rp K x G v d ∧ Rp K x G w e := by
  cases h with
  | cons h r =>
    obtain ⟨w, rfl, h2⟩ := r.one
    exact ⟨_, w, rfl, h, h2⟩
theorem snd_len {K : PySem.W.Frag} : SndN K true (fun xs H Q => ∃ x n, xs = [x] ∧ LenV K x H n ∧ Q (.int n) H) gLen := fun G H xs ds d e h q Q k => by
  unfold gLen at q
  split at q
  · cases q
    obtain ⟨v, rfl, hq⟩ := h.one
    obtain ⟨a, xs, rfl, s1, r1⟩ := hq.lst_inv
    exact ⟨_, _, rfl, .inl ⟨xs, .inl (.inl (e _ _ s1)), rfl⟩, by rw [r1.length]; exact k_sc k rfl⟩
  · cases q
    obtain ⟨v, rfl, hq⟩ := h.one
    obtain ⟨a, xs, rfl, s1, r1⟩ := hq.tup_inv
    exact ⟨_, _, rfl, .inr ⟨xs, .inl (.inl (e _ _ s1)), rfl⟩, by rw [r1.length]; exact k_sc k rfl⟩
  · split at q
    · cases q
      rename_i hl
      obtain ⟨v, rfl, hq⟩ := h.one
      rw [hq.str_inv]
      exact ⟨_, _, rfl, ⟨lim_sz hl, rfl⟩, k_sc k rfl⟩
    · cases q
  · cases q
def gMax2 : List D → Option D
  | [.int i, .int j] => some (.int (if j > i then j else i))
  | _ => none
def gMin2 : List D → Option D
  | [.int i, .int j] => some (.int (if j < i then j else i))
  | _ => none
theorem snd_max2 {K : PySem.W.Frag} : SndN K true (fun xs H Q => ∃ i j, xs = [.int i, .int j] ∧ Q (.int (if j > i then j else i)) H) gMax2 := fun G H xs ds d e h q Q k => by
  unfold gMax2 at q
  split at q
  · cases q
    obtain ⟨v, w, rfl, h1, h2⟩ := h.two
    exact ⟨_, _, by rw [h1.int_inv, h2.int_inv], k_sc k rfl⟩
  · cases q
def gInt1 : List D → Option D
  | [.int i] => some (.int i)
  | [.bl b] => some (.int (if b then 1 else 0))
  | _ => none
theorem snd_int1 {K : PySem.W.Frag} : SndN K true (fun xs H Q => (∃ i, xs = [.int i] ∧ Q (.int i) H) ∨ ∃ k, xs = [.bl k] ∧ Q (.int (if k then 1 else 0)) H) gInt1 := fun G H xs ds d e h q Q k => by
  unfold gInt1 at q
  split at q
  · cases q
    obtain ⟨v, rfl, hq⟩ := h.one
    exact .inl ⟨_, by rw [hq.int_inv], k_sc k rfl⟩
  · cases q
    obtain ⟨v, rfl, hq⟩ := h.one
    exact .inr ⟨_, by rw [hq.bl_inv], k_sc k rfl⟩
  · cases q
def chV (z : Str) : List V := z.cps.toList.map fun c => V.str ⟨#[c]⟩
def chD (z : Str) : List D := z.cps.toList.map fun c => D.str ⟨#[c]⟩
theorem chs_rp {K : PySem.W.Frag} {x : Bool} {G : Hp} : ∀ l : List Nat, RpL K x G (l.map fun c => V.str ⟨#[c]⟩) (l.map fun c => D.str ⟨#[c]⟩)
  | [] => .nil
  | c :: l => .cons (.str _) (chs_rp l)
def rListS : List V → Hp → VK → Prop := fun xs H Q => ∃ z : Str, xs = [.str z] ∧ z.length ≤ LIM ∧ ∀ l, H l = none → Q (.ref l) (upd H l (.lst (chV z)))
theorem call_listS {X : Cx} (hc : X.calm = true) : CallR X (.type "list") rListS := by
  intro pp s σ H xs us Q I r h
  obtain ⟨z, rfl, hz, q⟩ := h
  obtain ⟨u, rfl, ru⟩ := r.one
  obtain ⟨t, rfl⟩ := ru
  have hsz : z.cps.size ≤ sizeLine := lim_sz hz
  refine PySem.call_list_str (I.ok.hd hc) z t (fun h' tk acc c' hk e hi => ?_) hsz
  have hl : acc.toList.length = z.cps.size := by rw [Array.length_toList]; exact hi.1
  have hv : Vals (chV z) acc.toList := by
    have e1 : chV z = (List.range acc.toList.length).map fun j => V.str ⟨#[z.cps.toList.getD j 0]⟩ := by
      unfold chV
      apply List.ext_getElem
      · rw [List.length_map, List.length_map, List.length_range, hl, Array.length_toList]
      · intro j h1 h2
        rw [List.length_map] at h1
        rw [List.getElem_map, List.getElem_map, List.getElem_range, List.getD_eq_getElem?_getD, List.getElem?_eq_getElem h1]
        rfl
    rw [e1]
    refine vals_of_get acc.toList _ fun j u hj => ?_
    obtain ⟨c, tu, h1, h2⟩ := hi.2 j u (by rw [← hj, Array.getElem?_toList])
    subst h2
    refine ⟨tu, ?_⟩
    have : z.cps.toList.getD j 0 = c := by
      rw [List.getD_eq_getElem?_getD, Array.getElem?_toList, h1]; rfl
    rw [this]
  refine ⟨.ref s.heap.objs.size, upd H s.heap.objs.size (.lst (chV z)), I.laid hk (Nat.le_refl _) (show ObjOk X.prog X.w _ _ _ (.lst (chV z)) from ⟨?_, acc.toList, c', hv, ?_⟩), rfl, q _ (I.hok.fresh (Nat.le_refl _))⟩
  · rw [hv.length, hl]; exact hsz
  · rw [Array.toArray_toList]; exact e
def gList1 : List D → Option D
  | [.lst ds] => some (.lst ds)
  | [.tup ds] => some (.lst ds)
  | [.str z] => if z.length ≤ LIM then some (.lst (chD z)) else none
  | _ => none
def rList1 (K : PySem.W.Frag) : List V → Hp → VK → Prop := fun xs H Q => (∃ p ys, xs = [.ref p] ∧ (SqL K H p ys ∨ SqT K H p ys) ∧ ∀ l, H l = none → Q (.ref l) (upd H l (.lst ys))) ∨ rListS xs H Q
theorem snd_list1 {K : PySem.W.Frag} : SndN K true (rList1 K) gList1 := fun G H xs ds d e h q Q k => by
  unfold gList1 at q
  split at q
  · cases q
    obtain ⟨v, rfl, hq⟩ := h.one
    obtain ⟨a, xs, rfl, s1, r1⟩ := hq.lst_inv
    exact .inl ⟨_, xs, rfl, .inl (.inl (.inl (e _ _ s1))), fun p hp => k _ _ (Ex.new hp) (new_rp e hp r1) (new_nn hp r1)⟩
  · cases q
    obtain ⟨v, rfl, hq⟩ := h.one
    obtain ⟨a, xs, rfl, s1, r1⟩ := hq.tup_inv
    exact .inl ⟨_, xs, rfl, .inr (.inl (.inl (e _ _ s1))), fun p hp => k _ _ (Ex.new hp) (new_rp e hp r1) (new_nn hp r1)⟩
  · split at q
    · cases q
      rename_i z hz
      obtain ⟨v, rfl, hq⟩ := h.one
      rw [hq.str_inv]
      exact .inr ⟨z, rfl, hz, fun p hp => k _ _ (Ex.new hp) (new_rp e hp (chs_rp _)) (new_nn (G := G) hp (chs_rp _))⟩
    · cases q
  · cases q
def asInts : List D → Option (List Int)
  | [] => some []
  | .int i :: r => (asInts r).map (i :: ·)
  | _ => none
theorem asInts_rp {K : PySem.W.Frag} {x : Bool} {G : Hp} : ∀ {xs : List V} {ds : List D} {ns : List Int}, RpL K x G xs ds → asInts ds = some ns → xs = ns.map V.int
  | _, _, _, .nil, q => by rw [asInts] at q; cases q; rfl
  | _, d :: ds, ns, .cons h r, q => by
    cases d with
    | int i =>
      rw [asInts] at q
      cases z : asInts ds with
      | none => rw [z] at q; cases q
      | some ms => rw [z] at q; cases q; rw [h.int_inv, asInts_rp r z]; rfl
    | _ => rw [asInts] at q <;> first | cases q | (intros; rintro ⟨⟩)
theorem asInts_map (ns : List Int) : asInts (ns.map .int) = some ns := by
  induction ns with
  | nil => rfl
  | cons n ns ih => rw [List.map_cons, asInts, ih]; rfl
def gSum : List D → Option D
  | [.lst ds] => (asInts ds).map fun ns => .int ns.sum
  | _ => none
theorem snd_sum {K : PySem.W.Frag} : SndN K true (rSum K) gSum := fun G H xs ds d e h q Q k => by
  unfold gSum at q
  split at q
  · rename_i ds
    obtain ⟨v, rfl, hq⟩ := h.one
    obtain ⟨a, xs, rfl, s1, r1⟩ := hq.lst_inv
    cases z : asInts ds with
    | none => rw [z] at q; cases q
    | some ns =>
      rw [z] at q
      cases q
      exact ⟨a, ns, rfl, by rw [← asInts_rp r1 z]; exact .inl (.inl (e _ _ s1)), k_sc k rfl⟩
  · cases q
def minL : List Int → Int
  | [] => 0
  | [i] => i
  | i :: r => min i (minL r)
theorem minL_cons (i j : Int) (r : List Int) : minL (i :: j :: r) = min i (minL (j :: r)) := rfl
theorem minL_spec : ∀ (ns : List Int), ns ≠ [] → minL ns ∈ ns ∧ ∀ y ∈ ns, minL ns ≤ y
  | [], h => absurd rfl h
  | [i], _ => by simp [minL]
  | i :: j :: r, _ => by
    obtain ⟨h1, h2⟩ := minL_spec (j :: r) (List.cons_ne_nil _ _)
    rw [minL_cons]
    refine ⟨?_, fun y hy => ?_⟩
    · rcases Int.le_total i (minL (j :: r)) with z | z
      · rw [Int.min_eq_left z]; exact List.mem_cons_self
      · rw [Int.min_eq_right z]; exact List.mem_cons_of_mem _ h1
    · rcases List.mem_cons.mp hy with rfl | hy
      · exact Int.min_le_left _ _
      · exact Int.le_trans (Int.min_le_right _ _) (h2 y hy)
def gMin1 : List D → Option D
  | [.lst ds] => match asInts ds with
    | some ns => if ns = [] then none else some (.int (minL ns))
    | none => none
  | _ => none
theorem len_pos {α : Type} {l : List α} (h : l ≠ []) : 0 < l.length := by
  cases l with
  | nil => exact absurd rfl h
  | cons a r => exact Nat.succ_pos _
theorem snd_min1 {K : PySem.W.Frag} : SndN K true (rMin K) gMin1 := fun G H xs ds d e h q Q k => by
  unfold gMin1 at q
  split at q
  · rename_i ds
    obtain ⟨v, rfl, hq⟩ := h.one
    obtain ⟨a, xs, rfl, s1, r1⟩ := hq.lst_inv
    split at q
    · rename_i ns z
      split at q
      · cases q
      · rename_i hne
        cases q
        obtain ⟨h1, h2⟩ := minL_spec ns hne
        refine ⟨a, ns, rfl, by rw [← asInts_rp r1 z]; exact .inl (.inl (e _ _ s1)), len_pos hne, fun m hm hle => ?_⟩
        have : m = minL ns := Int.le_antisymm (hle _ h1) (h2 m hm)
        rw [this]
        exact k_sc k rfl
    · cases q
  · cases q
def inD (x : D) (ds : List D) : Bool := match x.toV with
  | some v => inV v (ds.filterMap D.toV)
  | none => false
theorem toVs_rp {K : PySem.W.Frag} {x : Bool} {G : Hp} : ∀ {xs : List V} {ds : List D}, RpL K x G xs ds → ds.all D.sc = true → xs = ds.filterMap D.toV
  | _, _, .nil, _ => rfl
  | _, d :: ds, .cons h r, hs => by
    rw [List.all_cons, Bool.and_eq_true] at hs
    rw [List.filterMap_cons, h.toV hs.1, ← toVs_rp r hs.2]
theorem flatV_of {d : D} {v : V} (h : d.toV = some v) : flatV v = true := by
  cases d <;> cases h <;> rfl
theorem flatV_all {K : PySem.W.Frag} {x : Bool} {G : Hp} : ∀ {xs : List V} {ds : List D}, RpL K x G xs ds → ds.all D.sc = true → xs.all flatV = true
  | _, _, .nil, _ => rfl
  | _, d :: ds, .cons h r, hs => by
    rw [List.all_cons, Bool.and_eq_true] at hs
    rw [List.all_cons, flatV_of (h.toV hs.1), flatV_all r hs.2]; rfl
def inOk (a b : D) : Option Bool := match b with
  | .lst ds => if a.sc && ds.all D.sc then some (inD a ds) else none
  | .tup ds => if a.sc && ds.all D.sc then some (inD a ds) else none
  | .str z => match a with
    | .str ⟨⟨[c]⟩⟩ => some (decide (c ∈ z.cps.toList))
    | _ => none
  | _ => none
def gNotIn (a b : D) : Option D := (inOk a b).map fun k => .bl (!k)
def rNotIn2 (K : PySem.W.Frag) : R2 := fun x y H Q => rIn K true x y H Q ∨ ∃ (c : Nat) (z : Str), x = .str ⟨#[c]⟩ ∧ y = .str z ∧ Q (.bl (!decide (c ∈ z.cps.toList))) H
theorem op_notIn2 {X : Cx} : OpR X (compareOp .NotIn) (rNotIn2 X.K) := op_notIn_seq.or op_notIn_sign
theorem inOk_cases {K : PySem.W.Frag} {G H : Hp} {x y : V} {a b : D} {k : Bool} (e : Ex G H) (h1 : Rp K true G x a) (h2 : Rp K true G y b) (q : inOk a b = some k) :
    (∃ p xs, y = .ref p ∧ (SqL K H p xs ∨ SqT K H p xs) ∧ flatV x = true ∧ xs.all flatV = true ∧ inV x xs = k) ∨ ∃ (c : Nat) (z : Str), x = .str ⟨#[c]⟩ ∧ y = .str z ∧ decide (c ∈ z.cps.toList) = k := by
  unfold inOk at q
  split at q
  · split at q
    · rename_i hs
      rw [Bool.and_eq_true] at hs
      cases q
      obtain ⟨p, xs, rfl, s1, r1⟩ := h2.lst_inv
      refine .inl ⟨p, xs, rfl, .inl (.inl (.inl (e _ _ s1))), flatV_of (h1.toV hs.1), flatV_all r1 hs.2, ?_⟩
      unfold inD
      rw [h1.toV hs.1, toVs_rp r1 hs.2]
    · cases q
  · split at q
    · rename_i hs
      rw [Bool.and_eq_true] at hs
      cases q
      obtain ⟨p, xs, rfl, s1, r1⟩ := h2.tup_inv
      refine .inl ⟨p, xs, rfl, .inr (.inl (.inl (e _ _ s1))), flatV_of (h1.toV hs.1), flatV_all r1 hs.2, ?_⟩
      unfold inD
      rw [h1.toV hs.1, toVs_rp r1 hs.2]
    · cases q
  · split at q
    · cases q
      exact .inr ⟨_, _, h1.str_inv, h2.str_inv, rfl⟩
    · cases q
  · cases q
theorem snd_notIn {K : PySem.W.Frag} : Snd2 K true (rNotIn2 K) gNotIn := fun G H x y d1 d2 d e h1 h2 q Q k => by
  unfold gNotIn at q
  cases z : inOk d1 d2 with
  | none => rw [z] at q; cases q
  | some b =>
    rw [z] at q
    cases q
    rcases inOk_cases e h1 h2 z with ⟨p, xs, a1, a2, a3, a4, t⟩ | ⟨c, z, a1, a2, t⟩
    · exact .inl ⟨p, xs, a1, a2, a3, a4, by rw [if_pos rfl, t]; exact k_sc k rfl⟩
    · exact .inr ⟨c, z, a1, a2, by rw [t]; exact k_sc k rfl⟩
end MV
namespace MV
open PySem L2
section
variable {cf : Cf} {R : Rs} {Hs : Hp} {env : PEnv} {σ : L2.St} {H : Hp} {F : Nat → List Addr} {wf : List Addr}
theorem get_set {α : Type} {l : List α} {i j : Nat} {x y : α} (h : (l.set i x)[j]? = some y) : (i = j ∧ x = y ∧ i < l.length) ∨ (i ≠ j ∧ l[j]? = some y) := by
  by_cases e : i = j
  · subst e
    by_cases hl : i < l.length
    · rw [List.getElem?_set_self hl] at h; exact .inl ⟨rfl, Option.some.inj h, hl⟩
    · rw [List.getElem?_eq_none (by rw [List.length_set]; omega)] at h; cases h
  · rw [List.getElem?_set_ne e] at h; exact .inr ⟨e, h⟩
theorem Rel.put (r : Rel cf R Hs env σ H F wf) {i : Nat} {v : V} {d : D} (hw : cf.kd i ≠ .W) (hs : ∀ F', SlotR cf.K R Hs H F' (cf.kd i) v d) : Rel cf R Hs (env.set i (some d)) (σ.set i (some v)) H F wf where
  len := by rw [List.length_set, List.length_set]; exact r.len
  exs := r.exs
  ex0 := r.ex0
  dom0 := r.dom0
  slot := fun j d' h => by
    rcases get_set h with ⟨rfl, e, hl⟩ | ⟨ne, h⟩
    · cases e
      exact ⟨v, by rw [List.getElem?_set_self (by rw [← r.len]; exact hl)], hs _⟩
    · obtain ⟨w, h1, h2⟩ := r.slot j d' h
      exact ⟨w, by rw [List.getElem?_set_ne ne]; exact h1, h2⟩
  nod := r.nod
  dis := r.dis
  fdom := r.fdom
  uns := r.uns
  new := r.new
  volw := r.volw
  volb := r.volb
  wdom := r.wdom
  ior := fun p h => by
    obtain ⟨h1, h2, h3, d', h4⟩ := r.ior p h
    have ne : i ≠ 0 := fun e => by subst e; exact hw h3
    exact ⟨by rw [List.getElem?_set_ne ne]; exact h1, h2, h3, d', by rw [List.getElem?_set_ne ne]; exact h4⟩
theorem Rel.mut (r : Rel cf R Hs env σ H F wf) {i : Nat} {p : Addr} {o' : HO} {v : V} {d0 d' : D} (hp : p ∈ F i) (he : env[i]? = some (some d0)) (hv : σ[i]? = some (some v)) (hs : SlotR cf.K R Hs (upd H p o') (F i) (cf.kd i) v d') : Rel cf R Hs (env.set i (some d')) σ (upd H p o') F wf where
  len := by rw [List.length_set]; exact r.len
  exs := fun a o h => by
    rw [upd_ne (fun e => by subst e; rw [r.uns i _ hp] at h; cases h)]; exact r.exs a o h
  ex0 := r.ex0
  dom0 := fun a h => by
    by_cases e : a = p
    · subst e; rw [upd_same]; exact fun z => by cases z
    · rw [upd_ne e]; exact r.dom0 a h
  slot := fun j d h => by
    rcases get_set h with ⟨rfl, e, hl⟩ | ⟨ne, h⟩
    · cases e
      exact ⟨v, hv, hs⟩
    · obtain ⟨w, h1, h2⟩ := r.slot j d h
      refine ⟨w, h1, ?_⟩
      have np : ∀ a ∈ F j, ∀ o, H a = some o → upd H p o' a = some o := fun a m o h => by
        rw [upd_ne (fun e => by subst e; exact r.dis i j ne _ hp m)]; exact h
      cases q : cf.kd j with
      | S => rw [q] at h2; exact h2
      | N => rw [q] at h2; exact h2
      | Q => rw [q] at h2; exact h2
      | P => rw [q] at h2; exact Own.keep (Ex.refl _) h2 np
      | M => rw [q] at h2; exact ⟨Own.keep (Ex.refl _) h2.1 np, h2.2⟩
      | W =>
        rw [q] at h2
        obtain ⟨p2, xs, ds, e1, e2, e3, e4, e5⟩ := h2
        exact ⟨p2, xs, ds, e1, e2, e3, np p2 (by rw [e3]; exact List.mem_singleton.mpr rfl) _ e4, e5⟩
  nod := r.nod
  dis := r.dis
  fdom := fun j a h => by
    by_cases e : a = p
    · subst e; rw [upd_same]; exact fun z => by cases z
    · rw [upd_ne e]; exact r.fdom j a h
  uns := r.uns
  new := r.new
  volw := r.volw
  volb := r.volb
  wdom := fun a h => by
    obtain ⟨h1, h2⟩ := r.wdom a h
    refine ⟨?_, h2⟩
    by_cases e : a = p
    · subst e; rw [upd_same]; exact fun z => by cases z
    · rw [upd_ne e]; exact h1
  ior := fun p h => by
    obtain ⟨h1, h2, h3, d'', h4⟩ := r.ior p h
    refine ⟨h1, h2, h3, ?_⟩
    by_cases e : i = 0
    · subst e
      have hl : 0 < env.length := (List.getElem?_eq_some_iff.mp he).1
      exact ⟨d', by rw [List.getElem?_set_self hl]⟩
    · exact ⟨d'', by rw [List.getElem?_set_ne e]; exact h4⟩
theorem Rel.own {env1 : PEnv} {Hs1 H1 : Hp} (r : Rel cf R Hs env σ H F wf) (s1 : Stp cf wf env Hs H env1 Hs1 H1) (r1 : Rel cf R Hs1 env1 σ H1 F wf) {i : Nat} {v : V} {d : D} {Fn wf' : List Addr} (hio : R.io ≠ none → i ≠ 0)
    (hn : Fn.Nodup) (hnew : ∀ a ∈ Fn, H a = none ∧ H1 a ≠ none) (hwf : ∀ a, a ∈ wf' ↔ a ∈ wf ∨ (cf.kd i = .W ∧ a ∈ Fn))
    (hs : SlotR cf.K R (rm Hs1 Fn) H1 Fn (cf.kd i) v d) : Rel cf R (rm Hs1 Fn) (env1.set i (some d)) (σ.set i (some v)) H1 (fun j => if j = i then Fn else F j) wf' ∧ Ex Hs (rm Hs1 Fn) := by
  have old : ∀ a, H a ≠ none → a ∉ Fn := fun a h m => h (hnew a m).1
  have exs : Ex Hs (rm Hs1 Fn) := fun a o h => by
    have : a ∉ Fn := old a (by rw [r.exs a o h]; exact fun z => by cases z)
    unfold rm
    rw [if_neg this]
    exact s1.ex a o h
  have sub : Ex (rm Hs1 Fn) Hs1 := rm_sub _ _
  refine ⟨?_, exs⟩
  constructor
  case len => rw [List.length_set, List.length_set]; exact r1.len
  case exs => exact sub.trans r1.exs
  case ex0 => exact fun a o h n => exs a o (r.ex0 a o h n)
  case dom0 => exact r1.dom0
  case slot =>
    intro j d' h
    rcases get_set h with ⟨rfl, e, hl⟩ | ⟨ne, h⟩
    · cases e
      exact ⟨v, by rw [List.getElem?_set_self (by rw [← r1.len]; exact hl)], by rw [if_pos rfl]; exact hs⟩
    · obtain ⟨w, h1, h2⟩ := r1.slot j d' h
      refine ⟨w, by rw [List.getElem?_set_ne ne]; exact h1, ?_⟩
      rw [if_neg (Ne.symm ne)]
      by_cases hw : cf.kd j = .W
      · rw [hw] at h2 ⊢; exact h2
      · have h' : env[j]? = some (some d') := by rw [← s1.kp j hw]; exact h
        obtain ⟨w0, g1, g2⟩ := r.slot j d' h'
        have ew : w0 = w := by rw [g1] at h1; cases h1; rfl
        subst ew
        cases q : cf.kd j with
        | S => rw [q] at g2; exact Rp.mono exs g2
        | N => rw [q] at g2; exact Rp.mono (rs_mono exs) g2
        | Q => rw [q] at g2; exact Rp.mono exs g2
        | P => rw [q] at g2; exact Own.keep (th_mono (rs_mono exs)) g2 fun a m o ha => s1.keep a o (r.volb j hw a m) ha
        | M => rw [q] at g2; exact ⟨Own.keep (rs_mono exs) g2.1 fun a m o ha => s1.keep a o (r.volb j hw a m) ha, g2.2⟩
        | W => exact absurd q hw
  case nod =>
    intro j
    by_cases e : j = i
    · rw [if_pos e]; exact hn
    · rw [if_neg e]; exact r.nod j
  case dis =>
    intro j k ne a m
    by_cases e : j = i
    · subst e
      rw [if_pos rfl] at m
      rw [if_neg (Ne.symm ne)]
      exact fun m2 => r.fdom k a m2 (hnew a m).1
    · rw [if_neg e] at m
      by_cases e2 : k = i
      · rw [if_pos e2]; exact old a (r.fdom j a m)
      · rw [if_neg e2]; exact r.dis j k ne a m
  case fdom =>
    intro j a m
    by_cases e : j = i
    · rw [if_pos e] at m; exact (hnew a m).2
    · rw [if_neg e] at m; exact r1.fdom j a m
  case uns =>
    intro j a m
    by_cases e : j = i
    · rw [if_pos e] at m; unfold rm; rw [if_pos m]
    · rw [if_neg e] at m
      unfold rm
      split
      · rfl
      · exact r1.uns j a m
  case new =>
    intro j a m
    by_cases e : j = i
    · rw [if_pos e] at m
      refine .inr ?_
      cases q : R.H0 a with
      | none => rfl
      | some o => exact absurd (hnew a m).1 (r.dom0 a (by rw [q]; exact fun z => by cases z))
    · rw [if_neg e] at m; exact r.new j a m
  case volw =>
    intro j hk a m
    rw [hwf]
    by_cases e : j = i
    · subst e; rw [if_pos rfl] at m; exact .inr ⟨hk, m⟩
    · rw [if_neg e] at m; exact .inl (r.volw j hk a m)
  case volb =>
    intro j hk a m z
    rcases (hwf a).mp z with z | ⟨z1, z2⟩
    · by_cases e : j = i
      · rw [if_pos e] at m; exact (r.wdom a z).1 (hnew a m).1
      · rw [if_neg e] at m; exact r.volb j hk a m z
    · by_cases e : j = i
      · subst e; exact hk z1
      · rw [if_neg e] at m; exact r.fdom j a m (hnew a z2).1
  case wdom =>
    intro a m
    rcases (hwf a).mp m with z | ⟨z1, z2⟩
    · obtain ⟨g1, g2⟩ := r1.wdom a z
      refine ⟨g1, ?_⟩
      unfold rm
      split
      · rfl
      · exact g2
    · refine ⟨(hnew a z2).2, ?_⟩
      unfold rm
      rw [if_pos z2]
  case ior =>
    intro p h
    obtain ⟨h1, h2, h3, d', h4⟩ := r1.ior p h
    have ne : i ≠ 0 := hio (by rw [h]; exact fun z => by cases z)
    exact ⟨by rw [List.getElem?_set_ne ne]; exact h1, by rw [if_neg (Ne.symm ne)]; exact h2, h3, d', by rw [List.getElem?_set_ne ne]; exact h4⟩
end
def SG (X : Cx) (cf : Cf) (W : WX) (c : Cls) (n : Bool) (i : Nat) (st : Stmt) (f : M D) : Prop := ∃ te, PS X st (tAsg te (gName i)) ∧ Sd cf W c n te f
def sSet (i : Nat) (f : M D) : M Fl := bnd f fun d => fun e => .ok .nx (e.set i (some d))
def mok : D → Bool
  | .lst ds => ds.all fun x => x.sc || match x with | .tup es => es.all D.sc | _ => false
  | d => d.sc
def sSetM (i : Nat) (f : M D) : M Fl := bnd f fun d => bnd (lift (if mok d then some d else none)) fun d => fun e => .ok .nx (e.set i (some d))
def wok : D → Bool
  | .lst ds => ds.all D.sc
  | _ => false
def sSetW (i : Nat) (f : M D) : M Fl := bnd f fun d => bnd (lift (if wok d then some d else none)) fun d => fun e => .ok .nx (e.set i (some d))
def eS (f : M D) : M D := bnd f fun d => lift (if d.sc then some d else none)
section
variable {X : Cx} {cf : Cf} {W : WX} {c : Cls} {n : Bool} {i : Nat}
theorem SE.scal {e : Expr} {te : TE} {f : M D} (h : SE X cf W c n e te f) : SE X cf W .V true e te (eS f) := by
  obtain ⟨p, s⟩ := h
  refine ⟨p, Sd.mk (fun R Hs env σ H F wf r d env' q Q k => ?_) (fun R Hs env σ H F wf r x env' q Q k => ?_)⟩
  · obtain ⟨d1, env1, q1, q⟩ := bnd_ok q
    obtain ⟨qg, rfl⟩ := lift_ok q
    split at qg
    · cases qg
      rename_i hs
      exact s.ok r q1 fun v Hs1 H1 s1 r1 p1 _ => k v Hs1 H1 s1 r1 (p1.sc_any hs _ _) fun _ _ => p1.sc_any hs _ _
    · cases qg
  · rcases bnd_ex q with q | ⟨d1, env1, q1, q⟩
    · exact s.exn r q k
    · exact (lift_ex q).elim
theorem Post.mono {R : Rs} {Hs Hs' : Hp} {D : Ends} (e : Ex Hs Hs') : ∀ {g : Res Fl}, Post cf W R Hs D g → Post cf W R Hs' D g
  | .ok .nx _, h => fun Hs2 σ' H' F' wf' e2 r => h Hs2 σ' H' F' wf' (e.trans e2) r
  | .ok (.rt _) _, h => fun v Hs2 σ' H' F' wf' e2 r => h v Hs2 σ' H' F' wf' (e.trans e2) r
  | .ok .bk _, h => fun Hs2 σ' H' F' wf' e2 r => h Hs2 σ' H' F' wf' (e.trans e2) r
  | .ok .ct _, h => fun Hs2 σ' H' F' wf' e2 r => h Hs2 σ' H' F' wf' (e.trans e2) r
  | .ex _ _, h => fun Hs2 σ' H' F' wf' e2 r => h Hs2 σ' H' F' wf' (e.trans e2) r
  | .stuck, h => h
theorem Sd.bind {te : TE} {f : M D} {g : D → M Fl} {R : Rs} {Hs : Hp} {env : PEnv} {σ : L2.St} {H : Hp} {F : Nat → List Addr} {wf : List Addr} {D : Ends} {Q : VK} (s : Sd cf W c n te f) (r : Rel cf R Hs env σ H F wf) (hp : Post cf W R Hs D (bnd f g env))
    (k : ∀ d env1 v Hs1 H1, Stp cf wf env Hs H env1 Hs1 H1 → Rel cf R Hs1 env1 σ H1 F wf → Rp cf.K true (rg c R.H0 Hs1 H H1 wf) v d → Nr cf.K n H Hs1 v d → Post cf W R Hs D (g d env1) → Q v H1) : te σ H Q := by
  unfold bnd at hp
  cases q : f env with
  | ok d env1 => rw [q] at hp; exact s.ok r q fun v Hs1 H1 s1 r1 p1 nr => k d env1 v Hs1 H1 s1 r1 p1 nr hp
  | ex x env1 => rw [q] at hp; exact s.exn r q fun Hs1 H1 s1 r1 => hp Hs1 σ H1 F wf s1.ex r1
  | stuck => rw [q] at hp; exact hp.elim
theorem SdT.bind {tt : TT} {f : M Bool} {g : Bool → M Fl} {R : Rs} {Hs : Hp} {env : PEnv} {σ : L2.St} {H : Hp} {F : Nat → List Addr} {wf : List Addr} {D : Ends} {Q : Bool → Hp → Prop} (s : SdT cf W tt f) (r : Rel cf R Hs env σ H F wf) (hp : Post cf W R Hs D (bnd f g env))
    (k : ∀ b env1 Hs1 H1, Stp cf wf env Hs H env1 Hs1 H1 → Rel cf R Hs1 env1 σ H1 F wf → Post cf W R Hs D (g b env1) → Q b H1) : tt σ H Q := by
  unfold bnd at hp
  cases q : f env with
  | ok d env1 => rw [q] at hp; exact s.ok r q fun Hs1 H1 s1 r1 => k d env1 Hs1 H1 s1 r1 hp
  | ex x env1 => rw [q] at hp; exact s.exn r q fun Hs1 H1 s1 r1 => hp Hs1 σ H1 F wf s1.ex r1
  | stuck => rw [q] at hp; exact hp.elim
theorem post_lift {α : Type} {o : Option α} {g : α → M Fl} {R : Rs} {Hs : Hp} {env : PEnv} {D : Ends} (hp : Post cf W R Hs D (bnd (lift o) g env)) : ∃ a, o = some a ∧ Post cf W R Hs D (g a env) := by
  cases o with
  | none => exact hp.elim
  | some a => exact ⟨a, rfl, hp⟩
theorem ss_setS {st : Stmt} {f : M D} (h : SG X cf W .S n i st f) (hk : cf.kd i = .S) : SS X cf W st (sSet i f) := by
  obtain ⟨te, p, s⟩ := h
  refine ⟨_, p, fun R Hs env σ H F wf r D hp => s.bind r hp fun d env1 v Hs1 H1 s1 r1 p1 _ hp => ?_⟩
  exact hp Hs1 _ H1 F wf s1.ex (r1.put (by rw [hk]; exact fun z => by cases z) fun F' => by rw [hk]; exact p1)
theorem ss_setN {st : Stmt} {f : M D} (h : SG X cf W .N n i st f) (hk : cf.kd i = .N) : SS X cf W st (sSet i f) := by
  obtain ⟨te, p, s⟩ := h
  refine ⟨_, p, fun R Hs env σ H F wf r D hp => s.bind r hp fun d env1 v Hs1 H1 s1 r1 p1 _ hp => ?_⟩
  exact hp Hs1 _ H1 F wf s1.ex (r1.put (by rw [hk]; exact fun z => by cases z) fun F' => by rw [hk]; exact p1)
theorem items_off {K : PySem.W.Frag} {A G : Hp} {p : Addr} {xs0 : List V} (hp : A p = some (.lst xs0)) (e : ∀ a o, a ≠ p → A a = some o → G a = some o) : ∀ {xs : List V} {ds : List D}, RpL K true A xs ds → (ds.all fun x => x.sc || match x with | .tup es => es.all D.sc | _ => false) = true → RpL K true G xs ds
  | _, _, .nil, _ => .nil
  | _, d :: ds, .cons h r, hs => by
    rw [List.all_cons, Bool.and_eq_true] at hs
    refine .cons ?_ (items_off hp e r hs.2)
    by_cases z : d.sc = true
    · exact h.sc_any z _ _
    · have h1 := hs.1
      rw [Bool.or_eq_true] at h1
      rcases h1 with h1 | h1
      · exact absurd h1 z
      · cases d with
        | tup es =>
          obtain ⟨a, ys, rfl, s1, r1⟩ := h.tup_inv
          have na : a ≠ p := fun z => by
            subst z
            have s1 : A a = some (.tup ys) := s1
            rw [hp] at s1; cases s1
          exact .tup (show G a = _ from e a _ na s1) (r1.sc_any h1 _ _)
        | _ => cases h1
theorem ss_setM {st : Stmt} {f : M D} (h : SG X cf W .V n i st f) (hk : cf.kd i = .M) : SS X cf W st (sSetM i f) := by
  obtain ⟨te, p, s⟩ := h
  refine ⟨_, p, fun R Hs env σ H F wf r D hp => s.bind r hp fun d env1 v Hs1 H1 s1 r1 p1 _ hp => ?_⟩
  obtain ⟨d', e, hp⟩ := post_lift hp
  split at e
  · cases e
    rename_i hm
    have p1 : Rp cf.K true (rs Hs1 H) v d := p1
    cases d with
    | lst ds =>
      obtain ⟨a, xs, rfl, h1, h2⟩ := p1.lst_inv
      have h1 : rs Hs1 H a = some (.lst xs) := h1
      have hna : H a = none := by
        cases z : H a with
        | none => rfl
        | some o => rw [rs_some z] at h1; cases h1
      rw [rs_none hna] at h1
      have hio : R.io ≠ none → i ≠ 0 := fun hh e => by
        cases z : R.io with
        | none => exact hh z
        | some q =>
          obtain ⟨_, _, h3, _⟩ := r.ior q z
          rw [← e, hk] at h3; cases h3
      obtain ⟨r2, e2⟩ := r.own s1 r1 (i := i) (v := .ref a) (d := .lst ds) (Fn := [a]) (wf' := wf) hio (by simp)
        (fun b m => by
          rw [List.mem_singleton.mp m]
          exact ⟨hna, by rw [r1.exs _ _ h1]; exact fun z => by cases z⟩)
        (fun b => ⟨.inl, fun z => z.elim id fun z => by rw [hk] at z; cases z.1⟩)
        (by
          rw [hk]
          refine ⟨Own.lst (r1.exs _ _ h1) (ownL_of ?_), fun z => (by cases z), Nat.le_refl _⟩
          refine items_off (A := rs Hs1 H) (p := a) (xs0 := xs) (by rw [rs_none hna]; exact h1) (fun b o nb hb => ?_) h2 hm
          have hb0 : H b = none := by
            cases z : H b with
            | none => rfl
            | some o => rw [rs_some z] at hb; cases hb
          rw [rs_none hb0] at hb
          have h00 : R.H0 b = none := by
            cases z : R.H0 b with
            | none => rfl
            | some o => exact absurd hb0 (r.dom0 b (by rw [z]; exact fun z => by cases z))
          rw [rs_none h00]
          unfold rm
          rw [if_neg (fun m => nb (List.mem_singleton.mp m))]
          exact hb)
      exact hp _ _ H1 _ wf e2 r2
    | _ =>
      obtain ⟨r2, e2⟩ := r.own s1 r1 (i := i) (v := v) (d := _) (Fn := []) (wf' := wf) (fun hh e => by
            cases z : R.io with
            | none => exact hh z
            | some q =>
              obtain ⟨_, _, h3, _⟩ := r.ior q z
              rw [← e, hk] at h3; cases h3) (by simp) (fun b m => by cases m) (fun b => ⟨.inl, fun z => z.elim id fun z => by cases z.2⟩) (by
            rw [hk]
            exact ⟨.leaf (p1.sc_any hm _ _), fun _ => hm, Nat.zero_le _⟩)
      exact hp _ _ H1 _ wf e2 r2
  · cases e
theorem ss_setW {st : Stmt} {f : M D} (h : SG X cf W .V n i st f) (hk : cf.kd i = .W) (h0 : i ≠ 0) : SS X cf W st (sSetW i f) := by
  obtain ⟨te, p, s⟩ := h
  refine ⟨_, p, fun R Hs env σ H F wf r D hp => s.bind r hp fun d env1 v Hs1 H1 s1 r1 p1 _ hp => ?_⟩
  obtain ⟨d', e, hp⟩ := post_lift hp
  split at e
  · cases e
    rename_i hm
    have p1 : Rp cf.K true (rs Hs1 H) v d := p1
    cases d with
    | lst ds =>
      obtain ⟨a, xs, rfl, h1, h2⟩ := p1.lst_inv
      have h1 : rs Hs1 H a = some (.lst xs) := h1
      have hna : H a = none := by
        cases z : H a with
        | none => rfl
        | some o => rw [rs_some z] at h1; cases h1
      rw [rs_none hna] at h1
      obtain ⟨r2, e2⟩ := r.own s1 r1 (i := i) (v := .ref a) (d := .lst ds) (Fn := [a]) (wf' := a :: wf) (fun _ => h0) (by simp)
        (fun b m => by
          rw [List.mem_singleton.mp m]
          exact ⟨hna, by rw [r1.exs _ _ h1]; exact fun z => by cases z⟩)
        (fun b => by
          rw [List.mem_cons, List.mem_singleton]
          exact ⟨fun z => z.elim (fun z => .inr ⟨hk, z⟩) .inl, fun z => z.elim .inr fun z => .inl z.2⟩)
        (by
          rw [hk]
          exact ⟨a, xs, ds, rfl, rfl, rfl, r1.exs _ _ h1, hm, h2.sc_any hm _ _⟩)
      exact hp _ _ H1 _ _ e2 r2
    | _ => cases hm
  · cases e
theorem sg_of {x : Str} {e : Expr} {te : TE} {f : M D} {pos' pos : Pos} (h : SE X cf W c n e te f) (hN : X.N.Nodup) (hi : X.N[i]? = some x) (hx : Loc X.env.scope x) (hs : swapsWith e (some (.Name x pos')) pos.line X.env = pure false := by rfl) (hf : X.fn x = true ∨ X.env.scope.names.lookup x = some .local := by first | exact .inl rfl | exact .inr rfl | assumption) :
    SG X cf W c n i (.Assign [.Name x pos'] e pos) f := by
  obtain ⟨p, s⟩ := h
  exact ⟨te, ps_set hN hi hx p hs hf, s⟩
theorem SG.le {c' : Cls} {st : Stmt} {f : M D} (h : SG X cf W c n i st f) (l : Cls.Le c c') : SG X cf W c' n i st f := let ⟨t, p, s⟩ := h; ⟨t, p, s.le l⟩
def sSkip : M Fl := ret .nx
def sSeq (a b : M Fl) : M Fl := bnd a fun f => match f with
  | .nx => b
  | o => ret o
def sDrop (f : M D) : M Fl := bnd f fun _ => ret .nx
def sRet (f : M D) : M Fl := bnd f fun d => ret (.rt d)
def sIf (t : M Bool) (a b : M Fl) : M Fl := bnd t fun k => if k then a else b
def sBrk : M Fl := ret .bk
def sCont : M Fl := ret .ct
theorem sss_nil : SSs X cf W [] sSkip := ⟨_, pss_nil, fun R Hs env σ H F wf r D hp => hp Hs σ H F wf (Ex.refl _) r⟩
theorem sds_seq {t u : TS} {a b : M Fl} (ha : SdS cf W t a) (hb : SdS cf W u b) : SdS cf W (tSeq t u) (sSeq a b) := by
  intro R Hs env σ H F wf r D hp
  refine ha R Hs env σ H F wf r { D with nx := u D } ?_
  unfold sSeq bnd at hp
  cases q : a env with
  | ok f env1 =>
    rw [q] at hp
    cases f with
    | nx => exact fun Hs' σ' H' F' wf' e r' => hb R Hs' env1 σ' H' F' wf' r' D (hp.mono e)
    | rt d => exact hp
    | bk => exact hp
    | ct => exact hp
  | ex x env1 => rw [q] at hp; exact hp
  | stuck => rw [q] at hp; exact hp
theorem sss_cons {st : Stmt} {rest : List Stmt} {a b : M Fl} (ha : SS X cf W st a) (hb : SSs X cf W rest b) : SSs X cf W (st :: rest) (sSeq a b) := let ⟨_, p, s⟩ := ha; let ⟨_, p2, s2⟩ := hb; ⟨_, pss_cons p p2, sds_seq s s2⟩
theorem sss_one {st : Stmt} {a : M Fl} (ha : SS X cf W st a) : SSs X cf W [st] a := let ⟨_, p, s⟩ := ha; ⟨_, pss_one p, s⟩
theorem ss_expr {e : Expr} {te : TE} {f : M D} {pos : Pos} (h : SE X cf W c n e te f) (hs : swapsWith e none pos.line X.env = pure false := by rfl) : SS X cf W (.Expr e pos) (sDrop f) := by
  obtain ⟨p, s⟩ := h
  exact ⟨_, ps_expr p hs, fun R Hs env σ H F wf r D hp => s.bind r hp fun d env1 v Hs1 H1 s1 r1 p1 _ hp => hp Hs1 σ H1 F wf s1.ex r1⟩
theorem ss_ret {e : Expr} {te : TE} {f : M D} {pos : Pos} (h : SE X cf W .L n e te f) : SS X cf W (.Return (some e) pos) (sRet f) := by
  obtain ⟨p, s⟩ := h
  exact ⟨_, ps_ret p, fun R Hs env σ H F wf r D hp => s.bind r hp fun d env1 v Hs1 H1 s1 r1 p1 _ hp => hp v Hs1 σ H1 F wf s1.ex r1 p1⟩
def sRetN : M Fl := ret (.rt .non)
theorem ss_if {e : Expr} {a b : List Stmt} {tt : TT} {ft : M Bool} {fa fb : M Fl} {pos : Pos} (ht : ST X cf W e tt ft) (ha : SSs X cf W a fa) (hb : SSs X cf W b fb) : SS X cf W (.If e a b pos) (sIf ft fa fb) := by
  obtain ⟨p, s⟩ := ht
  obtain ⟨ta, pa, sa⟩ := ha
  obtain ⟨tb, pb, sb⟩ := hb
  refine ⟨_, ps_if p pa pb, fun R Hs env σ H F wf r D hp => s.bind r hp fun k env1 Hs1 H1 s1 r1 hp => ?_⟩
  cases k with
  | true => exact sa R Hs1 env1 σ H1 F wf r1 D (Post.mono s1.ex hp)
  | false => exact sb R Hs1 env1 σ H1 F wf r1 D (Post.mono s1.ex hp)
def sAft (go : M Fl) : Fl → M Fl
  | .nx => go
  | .ct => go
  | .bk => ret .nx
  | .rt d => ret (.rt d)
def sWhile (t : M Bool) (b : M Fl) : Nat → M Fl
  | 0 => fail
  | n + 1 => bnd t fun k => if k then bnd b (sAft (sWhile t b n)) else ret .nx
theorem ss_while {e : Expr} {body : List Stmt} {tt : TT} {ft : M Bool} {fb : M Fl} {pos : Pos} (m : Nat) (hp : PassesOwn (model X.prog X.w) X.A X.env X.xe) (ht : ST X cf W e tt ft) (hb : SSs X cf W body fb) : SS X cf W (.While e body [] pos) (sWhile ft fb m) := by
  obtain ⟨p, s⟩ := ht
  obtain ⟨tb, pb, sb⟩ := hb
  refine ⟨_, ps_while hp p pb, fun R Hs env σ H F wf r D hp => ?_⟩
  refine ⟨fun m σ H => ∃ Hs1 env F wf, Ex Hs Hs1 ∧ Rel cf R Hs1 env σ H F wf ∧ Post cf W R Hs1 D (sWhile ft fb m env), ⟨m, Hs, env, F, wf, Ex.refl _, r, hp⟩, ?_⟩
  rintro m σ H ⟨Hs1, env, F, wf, e1, r, hp⟩
  cases m with
  | zero => exact hp.elim
  | succ m =>
    refine s.bind r hp fun k env1 Hs2 H2 s2 r2 hp => ?_
    have hp := Post.mono s2.ex hp
    cases k with
    | false => exact hp Hs2 σ H2 F wf (Ex.refl _) r2
    | true =>
      refine ⟨fun σ' H' => ∃ Hs3 env F wf, Ex Hs Hs3 ∧ Rel cf R Hs3 env σ' H' F wf ∧ Post cf W R Hs3 D (sWhile ft fb m env), fun σ' H' h => ⟨m, Nat.lt_succ_self m, h⟩, ?_⟩
      refine sb R Hs2 env1 σ H2 F wf r2 _ ?_
      have hp : Post cf W R Hs2 D (bnd fb (sAft (sWhile ft fb m)) env1) := hp
      unfold bnd at hp
      cases q : fb env1 with
      | ok f env2 =>
        rw [q] at hp
        cases f with
        | nx => exact fun Hs' σ' H' F' wf' e r' => ⟨Hs', env2, F', wf', (e1.trans s2.ex).trans e, r', Post.mono e hp⟩
        | ct => exact fun Hs' σ' H' F' wf' e r' => ⟨Hs', env2, F', wf', (e1.trans s2.ex).trans e, r', Post.mono e hp⟩
        | bk => exact fun Hs' σ' H' F' wf' e r' => hp Hs' σ' H' F' wf' e r'
        | rt d => exact hp
      | ex x env2 => rw [q] at hp; exact hp
      | stuck => rw [q] at hp; exact hp
end
end MV
namespace MV
open PySem L2
structure ItOk (K : PySem.W.Frag) (J : It) (Hs1 : Hp) (ds : List D) : Prop where
  go : ∀ i H, i < ds.length → Ex Hs1 H → J.go i H
  stop : ∀ H, Ex Hs1 H → J.stop ds.length H
  yld : ∀ i H x H', Ex Hs1 H → i < ds.length → J.yld i H x H' → Ex H H' ∧ ∀ G, Ex Hs1 G → Ex G H → ∃ d, ds[i]? = some d ∧ Rp K true (grow G H H') x d
def SdI (cf : Cf) (W : WX) (wi : TI) (fi : M (List D)) : Prop :=
  ∀ (R : Rs) (Hs : Hp) (env : PEnv) (σ : L2.St) (H : Hp) (F : Nat → List Addr) (wf : List Addr), Rel cf R Hs env σ H F wf → ∀ Rk : It → Hp → Prop,
    match fi env with
    | .ok ds env' => (∀ J Hs' H', Stp cf wf env Hs H env' Hs' H' → Rel cf R Hs' env' σ H' F wf → ItOk cf.K J Hs' ds → Rk J H') → wi σ H Rk
    | .ex x env' => (∀ Hs' H', Stp cf wf env Hs H env' Hs' H' → Rel cf R Hs' env' σ H' F wf → W (cf.cv x) none σ H') → wi σ H Rk
    | .stuck => True
structure SI (X : Cx) (cf : Cf) (W : WX) (tg iter : Expr) (wi : TI) (fi : M (List D)) : Prop where
  p : PI X tg iter wi
  s : SdI cf W wi fi
section
variable {K : PySem.W.Frag}
theorem itl_ok {a : Addr} {xs : List V} {ds : List D} {Hs1 : Hp} (h : Hs1 a = some (.lst xs)) (r : RpL K true Hs1 xs ds) : ItOk K (Itl K a) Hs1 ds where
  go := fun i H hi e => by
    have hi' : i < xs.length := by rw [r.length]; exact hi
    exact ⟨xs, xs[i], .inl (.inl (e _ _ h)), by simp [hi']⟩
  stop := fun H e => ⟨xs, .inl (.inl (e _ _ h)), by rw [r.length]; exact Nat.le_refl _⟩
  yld := fun i H x H' e hi y => by
    obtain ⟨rfl, y⟩ := y
    refine ⟨Ex.refl _, fun G eg e2 => ?_⟩
    obtain ⟨d, hd, hr⟩ := r.getV (y xs (.inl (.inl (e _ _ h))))
    exact ⟨d, hd, hr.mono (eg.trans (Ex.grow e2 (Ex.refl _)))⟩
def rngD (lo : Int) (n : Nat) : List D := (List.range n).map fun k => .int (lo + (k : Nat))
theorem rngD_len (lo : Int) (n : Nat) : (rngD lo n).length = n := by unfold rngD; rw [List.length_map, List.length_range]
theorem itr_ok {lo : Int} {n : Nat} {Hs1 : Hp} : ItOk K (Itr lo n) Hs1 (rngD lo n) where
  go := fun i H hi e => by rw [rngD_len] at hi; exact hi
  stop := fun H e => by rw [rngD_len]; exact Nat.le_refl _
  yld := fun i H x H' e hi y => by
    obtain ⟨rfl, rfl⟩ := y
    rw [rngD_len] at hi
    exact ⟨Ex.refl _, fun G eg e2 => ⟨.int (lo + i), by unfold rngD; simp [hi], .int _⟩⟩
def rngC (lo c : Int) (n : Nat) : List D := (List.range n).map fun k => .int (lo + (k : Nat) * c)
def enumD (ds : List D) : List D := ds.zipIdx.map fun p => .tup [.int (p.2 : Nat), p.1]
theorem enumD_len (ds : List D) : (enumD ds).length = ds.length := by unfold enumD; simp
theorem ite_ok {a : Addr} {xs : List V} {ds : List D} {Hs1 : Hp} (h : Hs1 a = some (.lst xs)) (r : RpL K true Hs1 xs ds) : ItOk K (Ite K a) Hs1 (enumD ds) where
  go := fun i H hi e => by
    rw [enumD_len] at hi
    have hi' : i < xs.length := by rw [r.length]; exact hi
    exact ⟨xs, xs[i], .inl (.inl (e _ _ h)), by simp [hi']⟩
  stop := fun H e => ⟨xs, .inl (.inl (e _ _ h)), by rw [enumD_len, r.length]; exact Nat.le_refl _⟩
  yld := fun i H x H' e hi y => by
    obtain ⟨T, z, rfl, hT, rfl, y⟩ := y
    refine ⟨Ex.new hT, fun G eg e2 => ?_⟩
    obtain ⟨d, hd, hr⟩ := r.getV (y xs (.inl (.inl (e _ _ h))))
    refine ⟨.tup [.int (i : Nat), d], by unfold enumD; simp [hd], newT_rp e2 hT (.cons (.int _) (.cons (hr.mono eg) .nil))⟩
def zipD (as bs : List D) : List D := (as.zip bs).map fun p => .tup [p.1, p.2]
def strD (z : Str) : List D := z.cps.toList.map fun c => .str ⟨#[c]⟩
theorem its_ok {z : Str} {Hs1 : Hp} : ItOk K (Its z) Hs1 (strD z) where
  go := fun i H hi e => by unfold strD at hi; rw [List.length_map, Array.length_toList] at hi; exact hi
  stop := fun H e => by unfold strD; rw [List.length_map, Array.length_toList]; exact Nat.le_refl _
  yld := fun i H x H' e hi y => by
    obtain ⟨rfl, c, hc, rfl⟩ := y
    exact ⟨Ex.refl _, fun G eg e2 => ⟨.str ⟨#[c]⟩, by unfold strD; simp [hc], .str _⟩⟩
end
def asL : D → Option (List D)
  | .lst ds => some ds
  | _ => none
def asT : D → Option (List D)
  | .tup ds => some ds
  | _ => none
def asStr : D → Option (List D)
  | .str z => some (strD z)
  | _ => none
def iL (f : M D) : M (List D) := bnd f fun d => lift (asL d)
def iT (f : M D) : M (List D) := bnd f fun d => lift (asT d)
def iS (f : M D) : M (List D) := bnd f fun d => lift (asStr d)
def smallI (i : Int) : Bool := decide (-(2 ^ 62) ≤ i ∧ i < 2 ^ 62)
def gR1 : List D → Option (List D)
  | [.int j] => if smallI j then some (rngD 0 j.toNat) else none
  | _ => none
def gR2 : List D → Option (List D)
  | [.int i, .int j] => if smallI i && smallI j then some (rngD i (j - i).toNat) else none
  | _ => none
def gEn : List D → Option (List D)
  | [.lst ds] => some (enumD ds)
  | _ => none
def gZp : List D → Option (List D)
  | [.lst as, .lst bs] => some (zipD as bs)
  | _ => none
def iN (g : List D → Option (List D)) (a : M (List D)) : M (List D) := bnd a fun x => lift (g x)
section
variable {X : Cx} {cf : Cf} {W : WX} {c : Cls} {n : Bool} {tg : Expr}
theorem SdI.mk {wi : TI} {fi : M (List D)} (h1 : ∀ R Hs env σ H F wf, Rel cf R Hs env σ H F wf → ∀ ds env', fi env = .ok ds env' → ∀ Rk : It → Hp → Prop, (∀ J Hs' H', Stp cf wf env Hs H env' Hs' H' → Rel cf R Hs' env' σ H' F wf → ItOk cf.K J Hs' ds → Rk J H') → wi σ H Rk)
    (h2 : ∀ R Hs env σ H F wf, Rel cf R Hs env σ H F wf → ∀ x env', fi env = .ex x env' → ∀ Rk : It → Hp → Prop, (∀ Hs' H', Stp cf wf env Hs H env' Hs' H' → Rel cf R Hs' env' σ H' F wf → W (cf.cv x) none σ H') → wi σ H Rk) : SdI cf W wi fi := by
  intro R Hs env σ H F wf r Q
  cases q : fi env with
  | ok d env' => exact h1 R Hs env σ H F wf r d env' q Q
  | ex x env' => exact h2 R Hs env σ H F wf r x env' q Q
  | stuck => trivial
theorem asL_some {d : D} {ds : List D} (h : asL d = some ds) : d = .lst ds := by
  unfold asL at h; split at h <;> cases h; rfl
theorem si_list {e : Expr} {te : TE} {f : M D} (hK : cf.K = X.K) (h : SE X cf W .S n e te f) : SI X cf W tg e (iList cf.K te) (iL f) := by
  rw [hK]
  obtain ⟨p, s⟩ := h
  refine ⟨pi_list p, SdI.mk (fun R Hs env σ H F wf r ds env' q Rk k => ?_) (fun R Hs env σ H F wf r x env' q Rk k => ?_)⟩
  · obtain ⟨d1, env1, q1, q⟩ := bnd_ok q
    obtain ⟨qg, rfl⟩ := lift_ok q
    cases asL_some qg
    refine s.ok r q1 fun v Hs1 H1 s1 r1 p1 _ => ?_
    obtain ⟨a, xs, rfl, h1, h2⟩ := p1.lst_inv
    exact ⟨a, rfl, ⟨xs, .inl (.inl (r1.exs _ _ h1))⟩, k _ Hs1 H1 s1 r1 (by rw [← hK]; exact itl_ok h1 h2)⟩
  · rcases bnd_ex q with q | ⟨d1, env1, q1, q⟩
    · exact s.exn r q k
    · exact (lift_ex q).elim
theorem si_str {e : Expr} {te : TE} {f : M D} (h : SE X cf W c n e te f) : SI X cf W tg e (iStr te) (iS f) := by
  obtain ⟨p, s⟩ := h
  refine ⟨pi_str p, SdI.mk (fun R Hs env σ H F wf r ds env' q Rk k => ?_) (fun R Hs env σ H F wf r x env' q Rk k => ?_)⟩
  · obtain ⟨d1, env1, q1, q⟩ := bnd_ok q
    obtain ⟨qg, rfl⟩ := lift_ok q
    unfold asStr at qg
    split at qg
    · cases qg
      refine s.ok r q1 fun v Hs1 H1 s1 r1 p1 _ => ?_
      exact ⟨_, p1.str_inv, k _ Hs1 H1 s1 r1 its_ok⟩
    · cases qg
  · rcases bnd_ex q with q | ⟨d1, env1, q1, q⟩
    · exact s.exn r q k
    · exact (lift_ex q).elim
theorem smallI_of {i : Int} (h : smallI i = true) : -(2 ^ 62) ≤ i ∧ i < 2 ^ 62 := of_decide_eq_true h
theorem si_range1 {a : Expr} {ta : TA} {fa : M (List D)} {p pos : Pos} (hg : Gl X "range") (hm : X.mg "range" = none) (ha : SA X cf W c [a] ta fa) (hs : starEach [a] X.env = [(false, eval a X.env)] := by rfl) : SI X cf W tg (.Call (.Name "range" p) [a] [] pos) (iRng1 ta) (iN gR1 fa) := by
  obtain ⟨q, s⟩ := ha
  refine ⟨pi_range1 hg hm q hs, SdI.mk (fun R Hs env σ H F wf r ds env' q Rk k => ?_) (fun R Hs env σ H F wf r x env' q Rk k => ?_)⟩
  · obtain ⟨d1, env1, q1, q⟩ := bnd_ok q
    obtain ⟨qg, rfl⟩ := lift_ok q
    unfold gR1 at qg
    split at qg
    · split at qg
      · rename_i hb
        cases qg
        refine s.ok r q1 fun v Hs1 H1 s1 r1 p1 => ?_
        obtain ⟨w, rfl, hw⟩ := p1.one
        exact ⟨_, by rw [hw.int_inv], (smallI_of hb).1, (smallI_of hb).2, k _ Hs1 H1 s1 r1 itr_ok⟩
      · cases qg
    · cases qg
  · rcases bnd_ex q with q | ⟨d1, env1, q1, q⟩
    · exact s.exn r q k
    · exact (lift_ex q).elim
theorem si_range2 {a b : Expr} {ta : TA} {fa : M (List D)} {p pos : Pos} (hg : Gl X "range") (hm : X.mg "range" = none) (ha : SA X cf W c [a, b] ta fa) (hs : starEach [a, b] X.env = [(false, eval a X.env), (false, eval b X.env)] := by rfl) (hs2 : starEach [b] X.env = [(false, eval b X.env)] := by rfl) : SI X cf W tg (.Call (.Name "range" p) [a, b] [] pos) (iRng2 ta) (iN gR2 fa) := by
  obtain ⟨q, s⟩ := ha
  refine ⟨pi_range2 hg hm q hs hs2, SdI.mk (fun R Hs env σ H F wf r ds env' q Rk k => ?_) (fun R Hs env σ H F wf r x env' q Rk k => ?_)⟩
  · obtain ⟨d1, env1, q1, q⟩ := bnd_ok q
    obtain ⟨qg, rfl⟩ := lift_ok q
    unfold gR2 at qg
    split at qg
    · split at qg
      · rename_i hb
        cases qg
        rw [Bool.and_eq_true] at hb
        refine s.ok r q1 fun v Hs1 H1 s1 r1 p1 => ?_
        obtain ⟨w, w2, rfl, hw, hw2⟩ := p1.two
        exact ⟨_, _, by rw [hw.int_inv, hw2.int_inv], ⟨(smallI_of hb.1).1, (smallI_of hb.1).2, (smallI_of hb.2).1, (smallI_of hb.2).2⟩, k _ Hs1 H1 s1 r1 itr_ok⟩
      · cases qg
    · cases qg
  · rcases bnd_ex q with q | ⟨d1, env1, q1, q⟩
    · exact s.exn r q k
    · exact (lift_ex q).elim
theorem si_enum {e : Expr} {ta : TA} {fa : M (List D)} {p pos tpos : Pos} {elts : List Expr} {kk : Nat} (hK : cf.K = X.K) (hg : Gl X "enumerate") (hm : X.mg "enumerate" = none) (ha : SA X cf W .S [e] ta fa) (hs : starEach [e] X.env = [(false, eval e X.env)] := by rfl) : SI X cf W (.Tuple elts kk tpos) (.Call (.Name "enumerate" p) [e] [] pos) (iEnum cf.K ta) (iN gEn fa) := by
  rw [hK]
  obtain ⟨q, s⟩ := ha
  refine ⟨pi_enum hg hm q hs, SdI.mk (fun R Hs env σ H F wf r ds env' q Rk k => ?_) (fun R Hs env σ H F wf r x env' q Rk k => ?_)⟩
  · obtain ⟨d1, env1, q1, q⟩ := bnd_ok q
    obtain ⟨qg, rfl⟩ := lift_ok q
    unfold gEn at qg
    split at qg
    · cases qg
      refine s.ok r q1 fun v Hs1 H1 s1 r1 p1 => ?_
      obtain ⟨w, rfl, hw⟩ := p1.one
      obtain ⟨a, xs, rfl, h1, h2⟩ := hw.lst_inv
      exact ⟨a, xs, rfl, .inl (.inl (r1.exs _ _ h1)), k _ Hs1 H1 s1 r1 (by rw [← hK]; exact ite_ok h1 h2)⟩
    · cases qg
  · rcases bnd_ex q with q | ⟨d1, env1, q1, q⟩
    · exact s.exn r q k
    · exact (lift_ex q).elim
def tgN (i : Nat) : D → M Unit := fun d e => .ok () (e.set i (some d))
def setAll : List Nat → List D → PEnv → Option PEnv
  | [], [], e => some e
  | i :: is, d :: ds, e => setAll is ds (e.set i (some d))
  | _, _, _ => none
def tgT (is : List Nat) : D → M Unit := fun d e => match d with
  | .tup ds => match setAll is ds e with
    | some e' => .ok () e'
    | none => .stuck
  | _ => .stuck
def SdG (cf : Cf) (is : List Nat) (g : TG) (tg : D → M Unit) : Prop :=
  ∀ (R : Rs) (Hs : Hp) (env : PEnv) (σ : L2.St) (H : Hp) (F : Nat → List Addr) (wf : List Addr), Rel cf R Hs env σ H F wf → ∀ (d : D) (v : V), Rp cf.K true Hs v d → ∀ Q : L2.St → Hp → Prop,
    match tg d env with
    | .ok _ env' => (∀ σ', Rel cf R Hs env' σ' H F wf → wipe σ' is = wipe σ is → (∀ j, j ∉ is → env'[j]? = env[j]?) → Q σ' H) → g v σ H Q
    | .ex _ _ => False
    | .stuck => True
structure SGt (X : Cx) (cf : Cf) (is : List Nat) (tg : Expr) (g : TG) (f : D → M Unit) : Prop where
  p : PG X tg g
  s : SdG cf is g f
theorem wipe_set (σ : L2.St) (i : Nat) (x : Option V) : ∀ is : List Nat, i ∈ is → wipe (σ.set i x) is = wipe σ is
  | [], h => by cases h
  | j :: is, h => by
    unfold wipe
    by_cases e : i ∈ is
    · rw [wipe_set σ i x is e]
    · have : i = j := (List.mem_cons.mp h).resolve_right e
      subst this
      have hh : ∀ is : List Nat, i ∉ is → wipe (σ.set i x) is = (wipe σ is).set i x := by
        intro is
        induction is with
        | nil => intro _; rfl
        | cons k is ih =>
          intro hn
          unfold wipe
          rw [ih (fun m => hn (List.mem_cons_of_mem _ m)), List.set_comm _ _ (fun e => hn (by rw [e]; exact List.mem_cons_self))]
      rw [hh is e, List.set_set]
theorem sgt_name {i : Nat} {x : Str} {pos : Pos} {is : List Nat} (hm : i ∈ is) (hk : cf.kd i = .S) (hN : X.N.Nodup) (hi : X.N[i]? = some x) (hx : Loc X.env.scope x) (hf : X.fn x = true ∨ X.env.scope.names.lookup x = some .local := by first | exact .inl rfl | exact .inr rfl | assumption) : SGt X cf is (.Name x pos) (gName i) (tgN i) :=
  ⟨pg_name hN hi hx hf, fun R Hs env σ H F wf r d v p Q k => k _ (r.put (by rw [hk]; exact fun z => by cases z) fun F' => by rw [hk]; exact p) (wipe_set σ i _ is hm) fun j hj => List.getElem?_set_ne (fun e => hj (by rw [← e]; exact hm))⟩
def SdGs (cf : Cf) (is js : List Nat) (g : TGs) : Prop :=
  ∀ (R : Rs) (Hs : Hp) (env : PEnv) (σ : L2.St) (H : Hp) (F : Nat → List Addr) (wf : List Addr), Rel cf R Hs env σ H F wf → ∀ (ds : List D) (vs : List V), RpL cf.K true Hs vs ds → ∀ Q : L2.St → Hp → Prop, ∀ env', setAll js ds env = some env' →
    (∀ σ', Rel cf R Hs env' σ' H F wf → wipe σ' is = wipe σ is → (∀ j, j ∉ is → env'[j]? = env[j]?) → Q σ' H) → g vs σ H Q
structure SGts (X : Cx) (cf : Cf) (is js : List Nat) (ts : List Expr) (g : TGs) : Prop where
  p : PGs X ts g
  s : SdGs cf is js g
theorem sgts_nil {is : List Nat} : SGts X cf is [] [] gNil := ⟨pgs_nil, fun R Hs env σ H F wf r ds vs p Q env' q k => by
  cases p with
  | nil => rw [setAll] at q; cases q; exact ⟨rfl, k σ r rfl fun _ _ => rfl⟩
  | cons _ _ => rw [setAll] at q <;> first | cases q | (intros; rintro ⟨⟩)⟩
theorem sgts_cons {is js : List Nat} {i : Nat} {x : Str} {pos : Pos} {es : List Expr} {g : TGs} (hm : i ∈ is) (hk : cf.kd i = .S) (hN : X.N.Nodup) (hi : X.N[i]? = some x) (hx : Loc X.env.scope x) (h2 : SGts X cf is js es g) (hf : X.fn x = true ∨ X.env.scope.names.lookup x = some .local := by first | exact .inl rfl | exact .inr rfl | assumption)
    (hs : (assignEach (.Name x pos :: es) X.env).map (·.2) = assign (.Name x pos) X.env :: (assignEach es X.env).map (·.2) := by rfl) : SGts X cf is (i :: js) (.Name x pos :: es) (gCons (gName i) g) := by
  obtain ⟨p, s⟩ := h2
  refine ⟨pgs_cons (pg_name hN hi hx hf) p hs, fun R Hs env σ H F wf r ds vs p Q env' q k => ?_⟩
  cases p with
  | nil => rw [setAll] at q <;> first | cases q | (intros; rintro ⟨⟩)
  | cons h1 h2 =>
    rw [setAll] at q
    refine ⟨_, _, rfl, ?_⟩
    refine s R Hs _ _ H F wf (r.put (by rw [hk]; exact fun z => by cases z) fun F' => by rw [hk]; exact h1) _ _ h2 Q env' q fun σ' r' w' kj => ?_
    exact k σ' r' (w'.trans (wipe_set σ i _ is hm)) fun j hj => (kj j hj).trans (List.getElem?_set_ne (fun e => hj (by rw [← e]; exact hm)))
theorem sgt_tup {is js : List Nat} {es : List Expr} {g : TGs} {k : Nat} {pos : Pos} (hK : cf.K = X.K) (hc : X.calm = true) (h : SGts X cf is js es g) (hl : es.length = js.length)
    (hn : (assignEach es X.env).length = js.length := by rfl) (hst : (assignEach es X.env).findIdx? (·.1) = none := by rfl) : SGt X cf is (.Tuple es k pos) (gTup cf.K js.length g) (tgT js) := by
  rw [hK]
  obtain ⟨p, s⟩ := h
  refine ⟨pg_tup hc p hn hst, fun R Hs env σ H F wf r d v p Q => ?_⟩
  cases d with
  | tup ds =>
    cases q : setAll js ds env with
    | none =>
      have e1 : tgT js (.tup ds) env = .stuck := by simp only [tgT, q]
      rw [e1]; trivial
    | some env' =>
      have e1 : tgT js (.tup ds) env = .ok () env' := by simp only [tgT, q]
      rw [e1]
      intro kk
      obtain ⟨a, xs, rfl, h1, h2⟩ := p.tup_inv
      have hlen : ∀ (js : List Nat) (ds : List D) (e e' : PEnv), setAll js ds e = some e' → ds.length = js.length := by
        intro js
        induction js with
        | nil => intro ds e e' q; cases ds with
          | nil => rfl
          | cons _ _ => rw [setAll] at q <;> first | cases q | (intros; rintro ⟨⟩)
        | cons j js ih => intro ds e e' q; cases ds with
          | nil => rw [setAll] at q <;> first | cases q | (intros; rintro ⟨⟩)
          | cons d ds => rw [setAll] at q; rw [List.length_cons, List.length_cons, ih ds _ _ q]
      refine ⟨a, xs, rfl, .inl (.inl (r.exs _ _ h1)), by rw [h2.length, hlen js ds env env' q], ?_⟩
      exact s R Hs env σ H F wf r ds xs h2 Q env' q kk
  | _ => unfold tgT; trivial
def sForL (tg : D → M Unit) (b : M Fl) : List D → M Fl
  | [] => ret .nx
  | d :: r => bnd (tg d) fun _ => bnd b (sAft (sForL tg b r))
def sFor (fi : M (List D)) (tg : D → M Unit) (b : M Fl) : M Fl := bnd fi fun ds => sForL tg b ds
theorem ss_for {iter : Expr} {body : List Stmt} {wi : TI} {g : TG} {fi : M (List D)} {is : List Nat} {ft : D → M Unit} {fb : M Fl} {pos : Pos} (hp : PassesOwn (model X.prog X.w) X.A X.env X.xe) (hc : X.calm = true) (hi : SI X cf W tg iter wi fi) (hg : SGt X cf is tg g ft) (hb : SSs X cf W body fb)
    (hs : ∀ x, foldedSetIterable iter X.env x = pure x := by intro _; rfl) : SS X cf W (.For tg iter body [] pos) (sFor fi ft fb) := by
  obtain ⟨pi, si⟩ := hi
  obtain ⟨pg, sg⟩ := hg
  obtain ⟨tb, pb, sb⟩ := hb
  refine ⟨_, ps_for hp hc pi pg pb hs, fun R Hs env σ H F wf r D hp => ?_⟩
  have h := si R Hs env σ H F wf r
  unfold sFor bnd at hp
  cases q : fi env with
  | stuck => rw [q] at hp; exact hp.elim
  | ex x env1 =>
    rw [q] at hp
    have h := h fun J H1 => ∃ W : Nat → Nat → L2.St → Hp → Prop, (∃ m, W 0 m σ H1) ∧ ∀ i m σ H, W i m σ H → (J.stop i H ∧ D.nx σ H) ∨ (J.go i H ∧ ∃ N : L2.St → Hp → Prop, (∀ σ' H', N σ' H' → ∃ m', m' < m ∧ W (i + 1) m' σ' H') ∧ ∀ x H', J.yld i H x H' → g x σ H' fun σ2 H2 => tb { D with nx := N, ct := N, bk := D.nx } σ2 H2)
    rw [q] at h
    exact h fun Hs1 H1 s1 r1 => hp Hs1 σ H1 F wf s1.ex r1
  | ok ds env1 =>
    rw [q] at hp
    have h := h fun J H1 => ∃ W : Nat → Nat → L2.St → Hp → Prop, (∃ m, W 0 m σ H1) ∧ ∀ i m σ H, W i m σ H → (J.stop i H ∧ D.nx σ H) ∨ (J.go i H ∧ ∃ N : L2.St → Hp → Prop, (∀ σ' H', N σ' H' → ∃ m', m' < m ∧ W (i + 1) m' σ' H') ∧ ∀ x H', J.yld i H x H' → g x σ H' fun σ2 H2 => tb { D with nx := N, ct := N, bk := D.nx } σ2 H2)
    rw [q] at h
    refine h fun J Hs1 H1 s1 r1 it => ?_
    refine ⟨fun i m σ H => ∃ Hs2 env2 F2 wf2, Ex Hs1 Hs2 ∧ Rel cf R Hs2 env2 σ H F2 wf2 ∧ i ≤ ds.length ∧ m = ds.length - i ∧ Post cf W R Hs2 D (sForL ft fb (ds.drop i) env2),
      ⟨ds.length, Hs1, env1, F, wf, Ex.refl _, r1, Nat.zero_le _, by simp, by rw [List.drop_zero]; exact Post.mono s1.ex hp⟩, ?_⟩
    rintro i m σ H ⟨Hs2, env2, F2, wf2, e2, r2, hi, rfl, hp⟩
    by_cases hlt : i < ds.length
    · refine .inr ⟨it.go i H hlt (e2.trans r2.exs), fun σ' H' => ∃ Hs3 env3 F3 wf3, Ex Hs1 Hs3 ∧ Rel cf R Hs3 env3 σ' H' F3 wf3 ∧ Post cf W R Hs3 D (sForL ft fb (ds.drop (i + 1)) env3), fun σ' H' hN => ?_, fun x H' y => ?_⟩
      · obtain ⟨Hs3, env3, F3, wf3, e3, r3, hp3⟩ := hN
        exact ⟨ds.length - (i + 1), by omega, Hs3, env3, F3, wf3, e3, r3, hlt, rfl, hp3⟩
      · obtain ⟨eg, hy⟩ := it.yld i H x H' (e2.trans r2.exs) hlt y
        obtain ⟨d, hd, hr⟩ := hy Hs2 e2 r2.exs
        have ed : ds.drop i = d :: ds.drop (i + 1) := by
          rw [List.drop_eq_getElem_cons hlt]
          rw [List.getElem?_eq_getElem hlt] at hd
          cases hd
          rfl
        rw [ed, sForL] at hp
        have r3 := r2.grow eg
        have e3 : Ex Hs2 (grow Hs2 H H') := Ex.grow r2.exs eg
        have hg := sg R _ env2 σ H' F2 wf2 r3 d x hr fun σ2 H2 => tb { D with nx := fun σ' H' => ∃ Hs3 env3 F3 wf3, Ex Hs1 Hs3 ∧ Rel cf R Hs3 env3 σ' H' F3 wf3 ∧ Post cf W R Hs3 D (sForL ft fb (ds.drop (i + 1)) env3), ct := fun σ' H' => ∃ Hs3 env3 F3 wf3, Ex Hs1 Hs3 ∧ Rel cf R Hs3 env3 σ' H' F3 wf3 ∧ Post cf W R Hs3 D (sForL ft fb (ds.drop (i + 1)) env3), bk := D.nx } σ2 H2
        cases qt : ft d env2 with
        | stuck =>
          rw [bnd_of_stuck qt] at hp; exact hp.elim
        | ex x env3 => rw [qt] at hg; exact hg.elim
        | ok u env3 =>
          rw [bnd_of_ok qt] at hp
          rw [qt] at hg
          refine hg fun σ2 r4 _ _ => ?_
          refine sb R _ env3 σ2 H' F2 wf2 r4 _ ?_
          have hp : Post cf W R _ D (bnd fb (sAft (sForL ft fb (ds.drop (i + 1)))) env3) := Post.mono e3 hp
          unfold bnd at hp
          cases qb : fb env3 with
          | ok f env4 =>
            rw [qb] at hp
            cases f with
            | nx => exact fun Hs' σ' H' F' wf' e r' => ⟨Hs', env4, F', wf', (e2.trans e3).trans e, r', Post.mono e hp⟩
            | ct => exact fun Hs' σ' H' F' wf' e r' => ⟨Hs', env4, F', wf', (e2.trans e3).trans e, r', Post.mono e hp⟩
            | bk => exact fun Hs' σ' H' F' wf' e r' => hp Hs' σ' H' F' wf' e r'
            | rt d => exact hp
          | ex x env4 => rw [qb] at hp; exact hp
          | stuck => rw [qb] at hp; exact hp
    · have e : i = ds.length := by omega
      subst e
      rw [List.drop_length] at hp
      exact .inl ⟨it.stop H (e2.trans r2.exs), hp Hs2 σ H F2 wf2 (Ex.refl _) r2⟩
end
end MV
namespace MV
open PySem L2
abbrev W0 : WX := fun _ _ _ _ => False
def wipeE : List Nat → PEnv → PEnv
  | [], e => e
  | v :: vs, e => (wipeE vs e).set v none
def restE : List Nat → PEnv → PEnv → PEnv
  | [], _, e1 => e1
  | v :: vs, e, e1 => (restE vs e e1).set v ((e[v]?).getD none)
theorem wipeE_len : ∀ (is : List Nat) (e : PEnv), (wipeE is e).length = e.length
  | [], _ => rfl
  | v :: vs, e => by unfold wipeE; rw [List.length_set, wipeE_len vs e]
theorem restE_len : ∀ (is : List Nat) (e e1 : PEnv), (restE is e e1).length = e1.length
  | [], _, _ => rfl
  | v :: vs, e, e1 => by unfold restE; rw [List.length_set, restE_len vs e e1]
theorem wipeE_get {is : List Nat} {e : PEnv} {j : Nat} {d : D} (h : (wipeE is e)[j]? = some (some d)) : e[j]? = some (some d) ∧ j ∉ is := by
  induction is with
  | nil => exact ⟨h, by simp⟩
  | cons v vs ih =>
    unfold wipeE at h
    rcases get_set h with ⟨_, z, _⟩ | ⟨ne, h⟩
    · cases z
    · obtain ⟨h1, h2⟩ := ih h
      exact ⟨h1, fun m => (List.mem_cons.mp m).elim (fun z => ne z.symm) h2⟩
theorem wipeE_out {is : List Nat} {e : PEnv} {j : Nat} (h : j ∉ is) : (wipeE is e)[j]? = e[j]? := by
  induction is with
  | nil => rfl
  | cons v vs ih =>
    unfold wipeE
    rw [List.getElem?_set_ne (fun z => h (by rw [z]; exact List.mem_cons_self)), ih fun m => h (List.mem_cons_of_mem _ m)]
theorem restE_out {is : List Nat} {e e1 : PEnv} {j : Nat} (h : j ∉ is) : (restE is e e1)[j]? = e1[j]? := by
  induction is with
  | nil => rfl
  | cons v vs ih =>
    unfold restE
    rw [List.getElem?_set_ne (fun z => h (by rw [z]; exact List.mem_cons_self)), ih fun m => h (List.mem_cons_of_mem _ m)]
theorem restE_in {is : List Nat} {e e1 : PEnv} {j : Nat} (h : j ∈ is) (hl : e.length = e1.length) : (restE is e e1)[j]? = e[j]? := by
  induction is with
  | nil => cases h
  | cons v vs ih =>
    unfold restE
    by_cases z : v = j
    · subst z
      by_cases hv : v < e.length
      · rw [List.getElem?_set_self (by rw [restE_len]; omega), List.getElem?_eq_getElem hv]; rfl
      · rw [List.getElem?_eq_none (by rw [List.length_set, restE_len]; omega), List.getElem?_eq_none (by omega)]
    · rw [List.getElem?_set_ne z]
      exact ih ((List.mem_cons.mp h).resolve_left fun q => z q.symm)
def lcGo (is : List Nat) (tg : D → M Unit) (tt : M Bool) (fe : M D) : List D → List D → M (List D)
  | [], acc => ret acc
  | d :: r, acc => bnd (tg d) fun _ => bnd tt fun k =>
      if k then bnd fe fun y => bnd (lift (if acc.length < LIM then some () else none)) fun _ => fun e => lcGo is tg tt fe r (acc ++ [y]) (wipeE is e)
      else fun e => lcGo is tg tt fe r acc (wipeE is e)
def eLc (is : List Nat) (fi : M (List D)) (tg : D → M Unit) (tt : M Bool) (fe : M D) : M D := bnd fi fun ds => fun e => match lcGo is tg tt fe ds [] (wipeE is e) with
  | .ok acc e1 => .ok (.lst acc) (restE is e e1)
  | _ => .stuck
def tTrue : M Bool := ret true
structure ItOkW (K : PySem.W.Frag) (J : It) (G1 Hs1 : Hp) (ds : List D) : Prop where
  go : ∀ i H, i < ds.length → Ex G1 H → J.go i H
  stop : ∀ H, Ex G1 H → J.stop ds.length H
  yld : ∀ i H x H', Ex G1 H → i < ds.length → J.yld i H x H' → Ex H H' ∧ ∀ G, Ex Hs1 G → Ex G H → ∃ d, ds[i]? = some d ∧ Rp K true (grow G H H') x d
theorem ItOk.w {K : PySem.W.Frag} {J : It} {Hs1 : Hp} {ds : List D} (h : ItOk K J Hs1 ds) : ItOkW K J Hs1 Hs1 ds := ⟨h.go, h.stop, h.yld⟩
def SdIB (cf : Cf) (W : WX) (wi : TI) (fi : M (List D)) : Prop :=
  ∀ (R : Rs) (Hs : Hp) (env : PEnv) (σ : L2.St) (H : Hp) (F : Nat → List Addr) (wf : List Addr), Rel cf R Hs env σ H F wf → ∀ Rk : It → Hp → Prop,
    match fi env with
    | .ok ds env' => (∀ J G1 Hs' H', Stp cf wf env Hs H env' Hs' H' → Rel cf R Hs' env' σ H' F wf → Ex G1 (rm H' wf) → ItOkW cf.K J G1 Hs' ds → Rk J H') → wi σ H Rk
    | .ex x env' => (∀ Hs' H', Stp cf wf env Hs H env' Hs' H' → Rel cf R Hs' env' σ H' F wf → W (cf.cv x) none σ H') → wi σ H Rk
    | .stuck => True
structure SIB (X : Cx) (cf : Cf) (W : WX) (tg iter : Expr) (wi : TI) (fi : M (List D)) : Prop where
  p : PI X tg iter wi
  s : SdIB cf W wi fi
section
variable {X : Cx} {cf : Cf} {W : WX} {c : Cls} {n n1 : Bool}
theorem SdI.w {wi : TI} {fi : M (List D)} (h : SdI cf W wi fi) : SdIB cf W wi fi := fun R Hs env σ H F wf r Rk => by
  have h := h R Hs env σ H F wf r Rk
  cases q : fi env with
  | ok ds env' => rw [q] at h; exact fun k => h fun J Hs' H' s r' it => k J Hs' Hs' H' s r' (rg_le (c := .S) (c' := .B) .sb (H0 := R.H0) (Hst := H) r'.exs r.dom0 fun a m => (r'.wdom a m).2) it.w
  | ex x env' => rw [q] at h; exact h
  | stuck => trivial
theorem SI.w {tg iter : Expr} {wi : TI} {fi : M (List D)} (h : SI X cf W tg iter wi fi) : SIB X cf W tg iter wi fi := ⟨h.p, h.s.w⟩
def asLs : D → Option (List D)
  | .lst ds => if ds.all D.sc then some ds else none
  | _ => none
def iLs (f : M D) : M (List D) := bnd f fun d => lift (asLs d)
theorem Rel.bump {R : Rs} {Hs : Hp} {env : PEnv} {σ : L2.St} {H : Hp} {F : Nat → List Addr} {wf : List Addr} {p : Addr} {o : HO} (r : Rel cf R Hs env σ H F wf) (hs : Hs p = none) (hF : ∀ i, p ∉ F i) : Rel cf R Hs env σ (upd H p o) F wf where
  len := r.len
  exs := fun a u h => by rw [upd_ne (fun e => by subst e; rw [hs] at h; cases h)]; exact r.exs a u h
  ex0 := r.ex0
  dom0 := fun a h => by
    by_cases e : a = p
    · subst e; rw [upd_same]; exact fun z => by cases z
    · rw [upd_ne e]; exact r.dom0 a h
  slot := fun j d h => by
    obtain ⟨w, h1, h2⟩ := r.slot j d h
    refine ⟨w, h1, ?_⟩
    have np : ∀ a ∈ F j, ∀ u, H a = some u → upd H p o a = some u := fun a m u h => by
      rw [upd_ne (fun e => by subst e; exact hF j m)]; exact h
    cases q : cf.kd j with
    | S => rw [q] at h2; exact h2
    | N => rw [q] at h2; exact h2
    | Q => rw [q] at h2; exact h2
    | P => rw [q] at h2; exact Own.keep (Ex.refl _) h2 np
    | M => rw [q] at h2; exact ⟨Own.keep (Ex.refl _) h2.1 np, h2.2⟩
    | W =>
      rw [q] at h2
      obtain ⟨p2, xs, ds, e1, e2, e3, e4, e5⟩ := h2
      exact ⟨p2, xs, ds, e1, e2, e3, np p2 (by rw [e3]; exact List.mem_singleton.mpr rfl) _ e4, e5⟩
  nod := r.nod
  dis := r.dis
  fdom := fun j a h => by
    by_cases e : a = p
    · subst e; rw [upd_same]; exact fun z => by cases z
    · rw [upd_ne e]; exact r.fdom j a h
  uns := r.uns
  new := r.new
  volw := r.volw
  volb := r.volb
  wdom := fun a h => by
    obtain ⟨h1, h2⟩ := r.wdom a h
    refine ⟨?_, h2⟩
    by_cases e : a = p
    · subst e; rw [upd_same]; exact fun z => by cases z
    · rw [upd_ne e]; exact h1
  ior := r.ior
theorem Rel.share {R : Rs} {Hs : Hp} {env : PEnv} {σ : L2.St} {H : Hp} {F : Nat → List Addr} {wf : List Addr} {p : Addr} {o : HO} (r : Rel cf R Hs env σ H F wf) (hs : Hs p = none) (hH : H p = some o) (hF : ∀ i, p ∉ F i) (hw : p ∉ wf) : Rel cf R (upd Hs p o) env σ H F wf where
  len := r.len
  exs := fun a u h => by
    by_cases e : a = p
    · subst e; rw [upd_same] at h; cases h; exact hH
    · rw [upd_ne e] at h; exact r.exs a u h
  ex0 := fun a u h n => Ex.new hs a u (r.ex0 a u h n)
  dom0 := r.dom0
  slot := fun j d h => by
    obtain ⟨w, h1, h2⟩ := r.slot j d h
    refine ⟨w, h1, ?_⟩
    cases q : cf.kd j with
    | S => rw [q] at h2; exact Rp.mono (Ex.new hs) h2
    | N => rw [q] at h2; exact Rp.mono (rs_mono (Ex.new hs)) h2
    | Q => rw [q] at h2; exact Rp.mono (Ex.new hs) h2
    | P => rw [q] at h2; exact Own.mono (th_mono (rs_mono (Ex.new hs))) (Ex.refl _) h2
    | M => rw [q] at h2; exact ⟨Own.mono (rs_mono (Ex.new hs)) (Ex.refl _) h2.1, h2.2⟩
    | W => rw [q] at h2; exact h2
  nod := r.nod
  dis := r.dis
  fdom := r.fdom
  uns := fun j a h => by rw [upd_ne (fun e => by subst e; exact hF j h)]; exact r.uns j a h
  new := r.new
  volw := r.volw
  volb := r.volb
  wdom := fun a h => ⟨(r.wdom a h).1, by rw [upd_ne (fun e => by subst e; exact hw h)]; exact (r.wdom a h).2⟩
  ior := r.ior
theorem Rel.wipe {R : Rs} {Hs : Hp} {env : PEnv} {σ σ' : L2.St} {H : Hp} {F : Nat → List Addr} {wf : List Addr} {is : List Nat} (r : Rel cf R Hs env σ H F wf) (hk : ∀ i ∈ is, cf.kd i = .S) (hw : L2.wipe σ is = L2.wipe σ' is) : Rel cf R Hs (wipeE is env) (L2.wipe σ' is) H F wf where
  len := by rw [wipeE_len, ← hw, wipe_length]; exact r.len
  exs := r.exs
  ex0 := r.ex0
  dom0 := r.dom0
  slot := fun j d h => by
    obtain ⟨h1, h2⟩ := wipeE_get h
    obtain ⟨v, h3, h4⟩ := r.slot j d h1
    exact ⟨v, by rw [← hw, wipe_out h2]; exact h3, h4⟩
  nod := r.nod
  dis := r.dis
  fdom := r.fdom
  uns := r.uns
  new := r.new
  volw := r.volw
  volb := r.volb
  wdom := r.wdom
  ior := fun p h => by
    obtain ⟨h1, h2, h3, d, h4⟩ := r.ior p h
    have n0 : 0 ∉ is := fun m => by rw [hk 0 m] at h3; cases h3
    exact ⟨by rw [← hw, wipe_out n0]; exact h1, h2, h3, d, by rw [wipeE_out n0]; exact h4⟩
theorem Rel.rest {R : Rs} {Hs0 Hs : Hp} {env0 env : PEnv} {σ : L2.St} {H0 H : Hp} {F : Nat → List Addr} {wf : List Addr} {is : List Nat} (r0 : Rel cf R Hs0 env0 σ H0 F wf) (r : Rel cf R Hs env (L2.wipe σ is) H F wf) (ex : Ex Hs0 Hs) (hk : ∀ i ∈ is, cf.kd i = .S) : Rel cf R Hs (restE is env0 env) σ H F wf where
  len := by rw [restE_len]; have := r.len; rw [wipe_length] at this; exact this
  exs := r.exs
  ex0 := r.ex0
  dom0 := r.dom0
  slot := fun j d h => by
    by_cases m : j ∈ is
    · rw [restE_in m (by have := r.len; rw [wipe_length] at this; rw [this, r0.len])] at h
      obtain ⟨v, h1, h2⟩ := r0.slot j d h
      rw [hk j m] at h2 ⊢
      exact ⟨v, h1, Rp.mono ex h2⟩
    · rw [restE_out m] at h
      obtain ⟨v, h1, h2⟩ := r.slot j d h
      exact ⟨v, (wipe_some h1).1, h2⟩
  nod := r.nod
  dis := r.dis
  fdom := r.fdom
  uns := r.uns
  new := r.new
  volw := r.volw
  volb := r.volb
  wdom := r.wdom
  ior := fun p h => by
    obtain ⟨h1, h2, h3, d, h4⟩ := r.ior p h
    have n0 : 0 ∉ is := fun m => by rw [hk 0 m] at h3; cases h3
    exact ⟨(wipe_some h1).1, h2, h3, d, by rw [restE_out n0]; exact h4⟩
def Cls.sh : Cls → Bool
  | .L => false
  | .B => false
  | _ => true
theorem rg_sh {c : Cls} (h : c.sh = true) {H0 Hs Hst H H' : Hp} {wf wf' : List Addr} : rg c H0 Hs Hst H wf = rg c H0 Hs Hst H' wf' := by
  cases c <;> first | rfl | cases h
theorem rg_shm {c : Cls} (h : c.sh = true) {H0 Hs Hs' Hst H H' : Hp} {wf wf' : List Addr} (e : Ex Hs Hs') : Ex (rg c H0 Hs Hst H wf) (rg c H0 Hs' Hst H' wf') := by
  cases c with
  | V => exact rs_mono e
  | N => exact rs_mono e
  | S => exact e
  | L => cases h
  | B => cases h
theorem sdt_true : SdT cf W tYes tTrue := fun R Hs env σ H F wf r Q k => k Hs H Stp.refl r
theorem sd_lc {wi : TI} {g : TG} {tt : TT} {te : TE} {is : List Nat} {fi : M (List D)} {tg : D → M Unit} {ft : M Bool} {fe : M D} (hc : c.sh = true) (hk : ∀ i ∈ is, cf.kd i = .S) (si : SdIB cf W wi fi) (sg : SdG cf is g tg) (st : SdT cf W0 tt ft) (se : Sd cf W0 c n1 te fe) : Sd cf W c true (tLc wi g tt te is) (eLc is fi tg ft fe) := by
  refine Sd.mk (fun R Hs env σ H F wf r d env' q Q k => ?_) (fun R Hs env σ H F wf r x env' q Q k => ?_)
  · obtain ⟨ds, env1, q1, q⟩ := bnd_ok q
    have h := si R Hs env σ H F wf r
    refine (show ∀ Rk : It → Hp → Prop, (∀ J G1 Hs' H', Stp cf wf env Hs H env1 Hs' H' → Rel cf R Hs' env1 σ H' F wf → Ex G1 (rm H' wf) → ItOkW cf.K J G1 Hs' ds → Rk J H') → wi σ H Rk from fun Rk kk => by
      have h := h Rk
      rw [q1] at h
      exact h kk) _ fun J G1 Hs1 H1 s1 r1 hG it => ?_
    intro Dp hD
    cases q2 : lcGo is tg ft fe ds [] (wipeE is env1) with
    | stuck => simp only [q2] at q; cases q
    | ex x e2 => simp only [q2] at q; cases q
    | ok acc e2 =>
    simp only [q2] at q
    cases q
    have rw0 : Rel cf R Hs1 (wipeE is env1) (L2.wipe σ is) H1 F wf := r1.wipe hk rfl
    have dF : ∀ i, Dp ∉ F i := fun i m => r1.fdom i Dp m hD
    have dW : Dp ∉ wf := fun m => (r1.wdom Dp m).1 hD
    have dS : Hs1 Dp = none := r1.exs.back hD
    have dst : H Dp = none := by
      cases z : H Dp with
      | none => rfl
      | some o => exact absurd hD (s1.dom Dp (by rw [z]; exact fun y => by cases y))
    refine ⟨fun i m H' => ∃ Hs2 env2 accV acc2, i ≤ ds.length ∧ m = ds.length - i ∧ Stp cf wf (wipeE is env1) Hs1 H1 env2 Hs2 H' ∧ Rel cf R Hs2 env2 (L2.wipe σ is) H' F wf ∧ H' Dp = some (.lst accV) ∧ Hs2 Dp = none ∧ RpL cf.K true (rg c R.H0 Hs2 H H1 wf) accV acc2 ∧ lcGo is tg ft fe (ds.drop i) acc2 env2 = .ok acc e2,
      ⟨ds.length, Hs1, wipeE is env1, [], [], Nat.zero_le _, by simp, ⟨fun a h => (Ex.new hD).dom h, Ex.refl _, fun a o _ h => Ex.new hD a o h, fun _ _ => rfl, fun _ _ => rfl⟩, rw0.bump dS dF, upd_same, dS, .nil, by rw [List.drop_zero]; exact q2⟩, ?_⟩
    rintro i m H' ⟨Hs2, env2, accV, acc2, hi, rfl, s2, r2, hD2, hS2, ra, q3⟩
    have e12 : Ex G1 H' := fun a o h => by
      have h := hG a o h
      unfold rm at h
      split at h
      · cases h
      · rename_i hw; exact s2.keep a o hw h
    by_cases hlt : i < ds.length
    · refine .inr ⟨it.go i H' hlt e12, fun H'' => ∃ Hs2 env2 accV acc2, Stp cf wf (wipeE is env1) Hs1 H1 env2 Hs2 H'' ∧ Rel cf R Hs2 env2 (L2.wipe σ is) H'' F wf ∧ H'' Dp = some (.lst accV) ∧ Hs2 Dp = none ∧ RpL cf.K true (rg c R.H0 Hs2 H H1 wf) accV acc2 ∧ lcGo is tg ft fe (ds.drop (i + 1)) acc2 env2 = .ok acc e2, fun H'' hN => ?_, fun x H3 y => ?_⟩
      · obtain ⟨Hs3, env3, accV3, acc3, z⟩ := hN
        exact ⟨ds.length - (i + 1), by omega, Hs3, env3, accV3, acc3, hlt, rfl, z⟩
      · obtain ⟨eg, hy⟩ := it.yld i H' x H3 e12 hlt y
        obtain ⟨d, hd, hr⟩ := hy Hs2 s2.ex r2.exs
        have ed : ds.drop i = d :: ds.drop (i + 1) := by
          rw [List.drop_eq_getElem_cons hlt]
          rw [List.getElem?_eq_getElem hlt] at hd
          cases hd
          rfl
        rw [ed, lcGo] at q3
        obtain ⟨u, env3, qt, q4⟩ := bnd_ok q3
        obtain ⟨b, env4, qb, q5⟩ := bnd_ok q4
        have r3 := r2.grow eg
        have s3 : Stp cf wf env2 Hs2 H' env2 (grow Hs2 H' H3) H3 := Stp.grow r2.exs eg
        have hD3 : H3 Dp = some (.lst accV) := eg _ _ hD2
        have hS3 : grow Hs2 H' H3 Dp = none := by rw [grow_some hD2]; exact hS2
        have hg := sg R _ env2 (L2.wipe σ is) H3 F wf r3 d x hr
        refine (show ∀ Q : L2.St → Hp → Prop, (∀ σ', Rel cf R (grow Hs2 H' H3) env3 σ' H3 F wf → L2.wipe σ' is = L2.wipe (L2.wipe σ is) is → (∀ j, j ∉ is → env3[j]? = env2[j]?) → Q σ' H3) → g x (L2.wipe σ is) H3 Q from fun Q kk => by
          have hg := hg Q
          rw [qt] at hg
          exact hg kk) _ fun σ2 r4 w4 kj => ?_
        have ww : L2.wipe (L2.wipe σ is) is = L2.wipe σ is := by
          have : ∀ (js : List Nat), (∀ j ∈ js, j ∈ is) → L2.wipe (L2.wipe σ is) js = L2.wipe σ is := by
            intro js
            induction js with
            | nil => intro _; rfl
            | cons v vs ih =>
              intro hj
              show (L2.wipe (L2.wipe σ is) vs).set v none = L2.wipe σ is
              rw [ih fun j m => hj j (List.mem_cons_of_mem _ m)]
              apply List.ext_getElem?
              intro j
              by_cases e : v = j
              · subst e
                by_cases hl : v < (L2.wipe σ is).length
                · rw [List.getElem?_set_self hl]
                  cases z : (L2.wipe σ is)[v]? with
                  | none => rw [List.getElem?_eq_getElem hl] at z; cases z
                  | some o =>
                    cases o with
                    | none => rfl
                    | some w => exact absurd (hj v List.mem_cons_self) (wipe_some z).2
                · rw [List.getElem?_eq_none (by rw [List.length_set]; omega), List.getElem?_eq_none (by omega)]
              · rw [List.getElem?_set_ne e]
          exact this is fun _ m => m
        rw [ww] at w4
        refine ⟨w4, ?_⟩
        have kp4 : ∀ j, cf.kd j ≠ .W → j ∉ is → env3[j]? = (wipeE is env1)[j]? := fun j hj hn => (kj j hn).trans (s2.kp j hj)
        refine st.ok r4 qb fun Hs5 H5 s5 r5 => ?_
        have hD5 : H5 Dp = some (.lst accV) := s5.keep _ _ dW hD3
        have hS5 : Hs5 Dp = none := by rw [s5.same Dp (by rw [hD3]; exact fun z => by cases z)]; exact hS3
        -- what holds behind a turn
        have fin : ∀ (Hs6 H6 : Hp) (env6 : PEnv) (accV6 : List V) (acc6 : List D), Stp cf wf env4 Hs5 H5 env6 Hs6 H6 → Rel cf R Hs6 env6 σ2 H6 F wf → RpL cf.K true (rg c R.H0 Hs6 H H1 wf) accV6 acc6 → lcGo is tg ft fe (ds.drop (i + 1)) acc6 (wipeE is env6) = .ok acc e2 → ∀ H7, (H7 = H6 ∧ accV6 = accV ∨ H7 = upd H6 Dp (.lst accV6)) →
            ∃ Hs2 env2 accV acc2, Stp cf wf (wipeE is env1) Hs1 H1 env2 Hs2 H7 ∧ Rel cf R Hs2 env2 (L2.wipe σ is) H7 F wf ∧ H7 Dp = some (.lst accV) ∧ Hs2 Dp = none ∧ RpL cf.K true (rg c R.H0 Hs2 H H1 wf) accV acc2 ∧ lcGo is tg ft fe (ds.drop (i + 1)) acc2 env2 = .ok acc e2 := by
          intro Hs6 H6 env6 accV6 acc6 s6 r6 ra6 q6 H7 h7
          have hD6 : H6 Dp = some (.lst accV) := s6.keep _ _ dW hD5
          have hS6 : Hs6 Dp = none := by rw [s6.same Dp (by rw [hD5]; exact fun z => by cases z)]; exact hS5
          have r6w : Rel cf R Hs6 (wipeE is env6) (L2.wipe σ is) H6 F wf := r6.wipe hk w4
          have kpw : ∀ j, cf.kd j ≠ .W → (wipeE is env6)[j]? = (wipeE is env1)[j]? := fun j hj => by
            by_cases m : j ∈ is
            · have hl : (wipeE is env6).length = (wipeE is env1).length := by rw [r6w.len, rw0.len]
              cases z : (wipeE is env6)[j]? with
              | none => rw [List.getElem?_eq_none_iff] at z; rw [List.getElem?_eq_none (by omega)]
              | some o =>
                cases o with
                | some w => exact absurd m (wipeE_get z).2
                | none =>
                  cases z2 : (wipeE is env1)[j]? with
                  | none => rw [List.getElem?_eq_none_iff] at z2; rw [List.getElem?_eq_none (by omega)] at z; cases z
                  | some o2 =>
                    cases o2 with
                    | some w => exact absurd m (wipeE_get z2).2
                    | none => rfl
            · rw [wipeE_out m, s6.kp j hj, s5.kp j hj, kp4 j hj m]
          have keep6 : ∀ a o, a ∉ wf → H1 a = some o → H6 a = some o := fun a o hw h => s6.keep a o hw (s5.keep a o hw (s3.keep a o hw (s2.keep a o hw h)))
          have dom6 : ∀ a, H1 a ≠ none → H6 a ≠ none := fun a h => s6.dom a (s5.dom a (s3.dom a (s2.dom a h)))
          have ex6 : Ex Hs1 Hs6 := ((s2.ex.trans s3.ex).trans s5.ex).trans s6.ex
          have same6 : ∀ a, H1 a ≠ none → Hs6 a = Hs1 a := fun a h => ((s6.same a (s5.dom a (s3.dom a (s2.dom a h)))).trans (s5.same a (s3.dom a (s2.dom a h)))).trans ((s3.same a (s2.dom a h)).trans (s2.same a h))
          rcases h7 with ⟨rfl, rfl⟩ | rfl
          · exact ⟨Hs6, wipeE is env6, accV6, acc6, ⟨dom6, ex6, keep6, same6, kpw⟩, r6w, hD6, hS6, ra6, q6⟩
          · refine ⟨Hs6, wipeE is env6, accV6, acc6, ⟨fun a h => ?_, ex6, fun a o hw h => ?_, same6, kpw⟩, r6w.bump hS6 dF, upd_same, hS6, ra6, q6⟩
            · have : a ≠ Dp := fun e => by subst e; exact h hD
              rw [upd_ne this]; exact dom6 a h
            · have : a ≠ Dp := fun e => by subst e; rw [hD] at h; cases h
              rw [upd_ne this]; exact keep6 a o hw h
        have ra5 : RpL cf.K true (rg c R.H0 Hs5 H H1 wf) accV acc2 := ra.mono (rg_shm hc (s3.ex.trans s5.ex))
        cases b with
        | false => exact fin Hs5 H5 env4 accV acc2 Stp.refl r5 ra5 q5 H5 (.inl ⟨rfl, rfl⟩)
        | true =>
          obtain ⟨y6, env6, qe, q6⟩ := bnd_ok q5
          obtain ⟨u2, env7, ql, q7⟩ := bnd_ok q6
          obtain ⟨ql, rfl⟩ := lift_ok ql
          split at ql
          · rename_i hl
            refine se.ok r5 qe fun v6 Hs6 H6 s6 r6 p6 _ => ?_
            refine ⟨accV, s6.keep _ _ dW hD5, by rw [ra.length]; exact lim_lt hl, ?_⟩
            have dd : ∀ a, H a ≠ none → H5 a ≠ none := fun a h => s5.dom a (s3.dom a (s2.dom a (s1.dom a h)))
            have p6' : Rp cf.K true (rg c R.H0 Hs6 H H1 wf) v6 y6 := by
              have := p6.mono (rg_start dd)
              rw [rg_sh hc (H' := H1) (wf' := wf)] at this
              exact this
            exact fin Hs6 H6 env7 (accV ++ [v6]) (acc2 ++ [y6]) s6 r6 ((ra5.mono (rg_shm hc s6.ex)).append (.cons p6' .nil)) q7 _ (.inr rfl)
          · cases ql
    · have e : i = ds.length := by omega
      subst e
      rw [List.drop_length, lcGo] at q3
      cases q3
      refine .inl ⟨it.stop H' e12, ?_⟩
      have exn : Ex Hs2 (upd Hs2 Dp (.lst accV)) := Ex.new hS2
      have r6 : Rel cf R (upd Hs2 Dp (.lst accV)) e2 (L2.wipe σ is) H' F wf := r2.share hS2 hD2 dF dW
      have r7 : Rel cf R (upd Hs2 Dp (.lst accV)) (restE is env1 e2) σ H' F wf := Rel.rest r1 r6 (s2.ex.trans exn) hk
      have hroot : rg c R.H0 (upd Hs2 Dp (.lst accV)) H H1 wf Dp = some (.lst accV) := by
        have h0 : R.H0 Dp = none := by
          cases z : R.H0 Dp with
          | none => rfl
          | some o => exact absurd hD (r1.dom0 Dp (by rw [z]; exact fun y => by cases y))
        cases c with
        | V => show rs _ _ Dp = _; rw [rs_none dst, upd_same]
        | N => show rs _ _ Dp = _; rw [rs_none h0, upd_same]
        | S => exact upd_same
        | L => cases hc
        | B => cases hc
      refine k (.ref Dp) (upd Hs2 Dp (.lst accV)) H' ⟨fun a h => s2.dom a (s1.dom a h), (s1.ex.trans s2.ex).trans exn, fun a o hw h => s2.keep a o hw (s1.keep a o hw h), fun a h => ?_, fun j hj => ?_⟩ r7 ?_ ?_
      · rw [upd_ne (fun e => by subst e; exact h dst), s2.same a (s1.dom a h), s1.same a h]
      · by_cases m : j ∈ is
        · rw [restE_in m (by have := r6.len; rw [wipe_length] at this; rw [this, r1.len])]; exact s1.kp j hj
        · rw [restE_out m, s2.kp j hj, wipeE_out m]; exact s1.kp j hj
      · rw [rg_sh hc (H' := H1) (wf' := wf)]
        exact .lst hroot (ra.mono (rg_shm hc exn))
      · intro _ hf
        refine .lst (show rs (upd Hs2 Dp (.lst accV)) H Dp = _ by rw [rs_none dst, upd_same]) (ra.sc_any hf _ _)
  · rcases bnd_ex q with q | ⟨ds, env1, q1, q⟩
    · have h := si R Hs env σ H F wf r
      have h := h fun J H1 => ∀ D, H1 D = none → ∃ W : Nat → Nat → Hp → Prop, (∃ m, W 0 m (upd H1 D (.lst []))) ∧ ∀ i m H, W i m H → (J.stop i H ∧ Q (.ref D) H) ∨ (J.go i H ∧ ∃ Nx : Hp → Prop, (∀ H', Nx H' → ∃ m', m' < m ∧ W (i + 1) m' H') ∧ ∀ x H', J.yld i H x H' → g x (L2.wipe σ is) H' fun σ2 H2 => L2.wipe σ2 is = L2.wipe σ is ∧ tt σ2 H2 fun b H3 => if b = true then te σ2 H3 fun y H4 => ∃ acc, H4 D = some (.lst acc) ∧ acc.length < sizeLine ∧ Nx (upd H4 D (.lst (acc ++ [y]))) else Nx H3)
      rw [q] at h
      exact h k
    · split at q <;> cases q
end
end MV
namespace MV
open PySem PySem.Spec PyProof.Rows L2
section
variable {X : Cx} {cf : Cf} {W : WX} {c : Cls} {n n1 n2 : Bool}
structure STs (X : Cx) (cf : Cf) (W : WX) (es : List Expr) (t : TT) (f : M Bool) : Prop where
  p : PTs X es t
  s : SdT cf W t f
theorem sts_nil : STs X cf W [] tYes tTrue := ⟨pts_nil, sdt_true⟩
theorem sts_one {e : Expr} {t : TT} {f : M Bool} (h : ST X cf W e t f) : STs X cf W [e] t f := ⟨pts_one h.p, h.s⟩
theorem se_lc {elt tg iter : Expr} {ifs : List Expr} {scope : Scope} {own : List (Str × Nat)} {pos : Pos} {wi : TI} {g : TG} {tt : TT} {te : TE} {fi : M (List D)} {ftg : D → M Unit} {ft : M Bool} {fe : M D} (hsh : c.sh = true) (hk : ∀ i ∈ own.map (·.2), cf.kd i = .S) (hc : X.calm = true) (hN : X.N.Nodup) (hi : SIB X cf W tg iter wi fi) (ok : BlkOk X.N X.env.scope scope own)
    (hg : ∀ (s : Shared) (H : Hp) (C : Addr) (cl : List (Str × Addr)) (fp : List Addr), SGt (X.blk s H scope (compEnvC scope cl C X.env) fp) cf (own.map (·.2)) tg g ftg) (ht : ∀ (s : Shared) (H : Hp) (C : Addr) (cl : List (Str × Addr)) (fp : List Addr), STs (X.blk s H scope (compEnvC scope cl C X.env) fp) cf W0 ifs tt ft)
    (he : ∀ (s : Shared) (H : Hp) (C : Addr) (cl : List (Str × Addr)) (fp : List Addr), SE (X.blk s H scope (compEnvC scope cl C X.env) fp) cf W0 c n1 elt te fe) (hs : ∀ x, foldedSetIterable iter X.env x = pure x := by intro _; rfl) :
    SE X cf W c true (.ListComp elt [⟨tg, iter, ifs, 0⟩] scope pos) (tLc wi g tt te (own.map (·.2))) (eLc (own.map (·.2)) fi ftg ft fe) :=
  ⟨pe_lc hc hN hi.p ok (fun s H C cl fp => (hg s H C cl fp).p) (fun s H C cl fp => (ht s H C cl fp).p) (fun s H C cl fp => (he s H C cl fp).p) hs,
   sd_lc hsh hk hi.s (hg X.s_0 X.H_0 0 [] []).s (ht X.s_0 X.H_0 0 [] []).s (he X.s_0 X.H_0 0 [] []).s⟩
theorem sg_lc {i : Nat} {y : Str} {py : Pos} {elt tg iter : Expr} {ifs : List Expr} {scope : Scope} {own : List (Str × Nat)} {pos spos : Pos} {wi : TI} {g : TG} {tt : TT} {te : TE} {fi : M (List D)} {ftg : D → M Unit} {ft : M Bool} {fe : M D} (hsh : c.sh = true) (hk : ∀ i ∈ own.map (·.2), cf.kd i = .S) (hc : X.calm = true) (hN : X.N.Nodup) (hy : X.N[i]? = some y) (hyl : X.env.scope.names.lookup y = some .local)
    (hsw : swapsWith (.ListComp elt [⟨tg, iter, ifs, 0⟩] scope pos) (some (.Name y py)) spos.line X.env = pure true) (hi : SIB X cf W tg iter wi fi) (ok : BlkOk X.N X.env.scope scope own)
    (hg : ∀ (s : Shared) (H : Hp) (C : Addr) (cl : List (Str × Addr)) (fp : List Addr), SGt (X.blk s H scope (compEnvC scope cl C X.env) fp) cf (own.map (·.2)) tg g ftg) (ht : ∀ (s : Shared) (H : Hp) (C : Addr) (cl : List (Str × Addr)) (fp : List Addr), STs (X.blk s H scope (compEnvC scope cl C X.env) fp) cf W0 ifs tt ft)
    (he : ∀ (s : Shared) (H : Hp) (C : Addr) (cl : List (Str × Addr)) (fp : List Addr), SE (X.blk s H scope (compEnvC scope cl C X.env) fp) cf W0 c n1 elt te fe) (hs : ∀ x, foldedSetIterable iter X.env x = pure x := by intro _; rfl) :
    SG X cf W c true i (.Assign [.Name y py] (.ListComp elt [⟨tg, iter, ifs, 0⟩] scope pos) spos) (eLc (own.map (·.2)) fi ftg ft fe) :=
  ⟨_, ps_setLc hc hN hy hyl hsw hi.p ok (fun s H C cl fp => (hg s H C cl fp).p) (fun s H C cl fp => (ht s H C cl fp).p) (fun s H C cl fp => (he s H C cl fp).p) hs,
   sd_lc hsh hk hi.s (hg X.s_0 X.H_0 0 [] []).s (ht X.s_0 X.H_0 0 [] []).s (he X.s_0 X.H_0 0 [] []).s⟩
theorem SG.flat {i : Nat} {st : Stmt} {f : M D} (h : SG X cf W c true i st f) : SG X cf W .V true i st (eF f) := by
  obtain ⟨t, p, s⟩ := h
  refine ⟨t, p, fun R Hs env σ H F wf r Q => ?_⟩
  have h := s R Hs env σ H F wf r Q
  cases q : f env with
  | ok d env' =>
    rw [q] at h
    cases hf : d.flat with
    | true =>
      have e1 : eF f env = .ok d env' := by simp [eF, bnd, lift, q, hf]
      rw [e1]
      exact fun k => h fun v Hs' H' st r' p nr => k v Hs' H' st r' (nr rfl hf) nr
    | false =>
      have e1 : eF f env = .stuck := by simp [eF, bnd, lift, q, hf]
      rw [e1]
      trivial
  | ex x env' =>
    rw [q] at h
    have e1 : eF f env = .ex x env' := by simp [eF, bnd, q]
    rw [e1]
    exact h
  | stuck =>
    have e1 : eF f env = .stuck := by simp [eF, bnd, q]
    rw [e1]
    trivial
def lstAt (i : Nat) (e : PEnv) : Option (List D) := match e[i]? with
  | some (some (.lst ds)) => some ds
  | _ => none
theorem lstAt_some {i : Nat} {e : PEnv} {ds : List D} (h : lstAt i e = some ds) : e[i]? = some (some (.lst ds)) := by
  unfold lstAt at h
  split at h
  · rename_i q; cases h; exact q
  · cases h
def sApp (i : Nat) (f : M D) : M Fl := fun e => match lstAt i e with
  | none => .stuck
  | some _ => bnd f (fun d => fun e => match lstAt i e with
    | some ds => if ds.length < LIM then .ok .nx (e.set i (some (.lst (ds ++ [d])))) else .stuck
    | none => .stuck) e
def sPut (i : Nat) (fv fi : M D) : M Fl := bnd fv fun d => fun e => match lstAt i e with
  | none => .stuck
  | some _ => bnd fi (fun k => fun e => match lstAt i e, k with
    | some ds, .int z => match ixN ds.length z with
      | some j => .ok .nx (e.set i (some (.lst (ds.set j d))))
      | none => .stuck
    | _, _ => .stuck) e
def sPutW (i : Nat) (fv fi : M D) : M Fl := bnd fv fun d => fun e => match lstAt i e with
  | none => .stuck
  | some _ => bnd fi (fun k => fun e => match lstAt i e, k with
    | some ds, .int z => match ixN ds.length z with
      | some j => if d.sc then .ok .nx (e.set i (some (.lst (ds.set j d)))) else .stuck
      | none => .stuck
    | _, _ => .stuck) e
theorem own_list {R : Rs} {Hs : Hp} {env : PEnv} {σ : L2.St} {H : Hp} {F : Nat → List Addr} {wf : List Addr} {i : Nat} {ds : List D} (r : Rel cf R Hs env σ H F wf) (hk : cf.kd i = .M) (h : env[i]? = some (some (.lst ds))) : ∃ p xs, σ[i]? = some (some (.ref p)) ∧ F i = [p] ∧ H p = some (.lst xs) ∧ RpL cf.K true (rs Hs R.H0) xs ds := by
  obtain ⟨v, h1, h2⟩ := r.slot i _ h
  rw [hk] at h2
  obtain ⟨h2, h3, h4⟩ := h2
  generalize hF : F i = L at h2 h3 h4
  cases h2 with
  | leaf _ => cases h3 rfl
  | lst h5 h6 =>
    rename_i F' _
    have e : F' = [] := by
      rw [List.length_cons] at h4
      exact List.length_eq_zero_iff.mp (by omega)
    subst e
    exact ⟨_, _, h1, rfl, h5, h6.leafs rfl⟩
theorem own_listW {R : Rs} {Hs : Hp} {env : PEnv} {σ : L2.St} {H : Hp} {F : Nat → List Addr} {wf : List Addr} {i : Nat} {d : D} (r : Rel cf R Hs env σ H F wf) (hk : cf.kd i = .W) (h : env[i]? = some (some d)) : ∃ p xs ds, d = .lst ds ∧ σ[i]? = some (some (.ref p)) ∧ F i = [p] ∧ H p = some (.lst xs) ∧ ds.all D.sc = true ∧ RpL cf.K true emp xs ds := by
  obtain ⟨v, h1, h2⟩ := r.slot i _ h
  rw [hk] at h2
  obtain ⟨p, xs, ds, e1, e2, e3, e4, e5, e6⟩ := h2
  subst e1
  exact ⟨p, xs, ds, e2, h1, e3, e4, e5, e6⟩
theorem OwnL.app {K : PySem.W.Frag} {Hn H : Hp} : ∀ {F : List Addr} {xs ys : List V} {ds es : List D}, OwnL K Hn H F xs ds → RpL K true Hn ys es → OwnL K Hn H F (xs ++ ys) (ds ++ es)
  | _, _, _, _, _, .nil, h => ownL_of h
  | _, _, _, _, _, .cons h r, h2 => OwnL.cons h (OwnL.app r h2)
theorem OwnL.off {K : PySem.W.Frag} {Hn H : Hp} {p : Addr} {o : HO} {F : List Addr} {xs : List V} {ds : List D} (h : OwnL K Hn H F xs ds) (hp : p ∉ F) : OwnL K Hn (upd H p o) F xs ds := h.keep (Ex.refl _) fun a m u e => by
  rw [upd_ne (fun z => hp (by rw [← z]; exact m))]; exact e
theorem emp_ex (G : Hp) : Ex emp G := fun a o h => by cases h
theorem OwnL.length {K : PySem.W.Frag} {Hn H : Hp} : ∀ {F : List Addr} {xs : List V} {ds : List D}, OwnL K Hn H F xs ds → xs.length = ds.length
  | _, _, _, .nil => rfl
  | _, _, _, .cons _ r => by rw [List.length_cons, List.length_cons, OwnL.length r]
theorem ss_app {i : Nat} {o e : Expr} {te : TE} {f : M D} {apos cpos pos : Pos} (hK : cf.K = X.K) (po : PE X o (tVar i)) (hk : cf.kd i = .M) (h : SE X cf W .N n e te f)
    (hbase : attributeBase o "append" X.env (eval o X.env) = eval o X.env := by rfl)
    (hfew : ((backTo cpos (starEach [e] X.env)).all (fun x => !x.1) && (backToKw cpos (keywordEach [] X.env)).all (fun x => x.1.isSome) && decide ([e].length + ([] : List Keyword).length + (if ([] : List Keyword).isEmpty then 0 else 1) < 30)) = true := by rfl)
    (hline : (apos.endLine == cpos.line) = true := by rfl) (hs : starEach [e] X.env = (false, eval e X.env) :: starEach [] X.env := by rfl) (hplain : (backTo cpos (starEach [] X.env)).any (·.1) = false := by rfl)
    (hsw : swapsWith (.Call (.Attribute o "append" apos) [e] [] cpos) none pos.line X.env = pure false := by rfl) :
    SS X cf W (.Expr (.Call (.Attribute o "append" apos) [e] [] cpos) pos) (sApp i f) := by
  refine ⟨_, ps_expr (pe_bm PySem.F.plainAttrs_list PySem.F.slot_list_append PySem.F.type_list_append mt_append po (pa_cons h.p pa_nil hs) hbase hfew hline hs hplain) hsw, fun R Hs env σ H F wf r D hp => ?_⟩
  unfold sApp at hp
  cases q0 : lstAt i env with
  | none => simp only [q0] at hp; exact hp.elim
  | some ds0 =>
    simp only [q0] at hp
    obtain ⟨p0, xs0, a1, a2, a3, a4⟩ := own_list r hk (lstAt_some q0)
    refine ⟨.ref p0, a1, .inl ⟨rfl, xs0, .inl (.inl a3)⟩, ?_⟩
    refine h.s.bind r hp fun d env1 v Hs1 H1 s1 r1 p1 _ hp => ?_
    cases q : lstAt i env1 with
    | none => simp only [q] at hp; exact hp.elim
    | some ds =>
      simp only [q] at hp
      split at hp
      · rename_i hl
        obtain ⟨p, xs, h1, h2, h3, h4⟩ := own_list r1 hk (lstAt_some q)
        have ep : p = p0 := by rw [h1] at a1; cases a1; rfl
        subst ep
        refine ⟨p, xs, v, rfl, rfl, h3, by rw [h4.length]; exact lim_lt hl, ?_⟩
        exact hp Hs1 σ _ F wf s1.ex (r1.mut (i := i) (p := p) (v := .ref p) (d0 := .lst ds) (by rw [h2]; exact List.mem_cons_self) (lstAt_some q) h1 (by
            rw [hk, h2]
            exact ⟨Own.lst upd_same (ownL_of (h4.append (.cons p1 .nil))), fun z => (by cases z), Nat.le_refl _⟩))
      · exact hp.elim
theorem ss_putM {i : Nat} {o ix e : Expr} {te ti : TE} {f fi : M D} {spos pos : Pos} (po : PE X o (tVar i)) (hk : cf.kd i = .M) (h : SE X cf W .N n e te f) (hi : SE X cf W c n1 ix ti fi)
    (ha : ∀ v, assign (.Subscript o ix spos) X.env v = (do
      let ov ← holding [v] (eval o X.env)
      let iv ← holding [v, ov] (eval ix X.env)
      standAt spos
      holding [v, ov, iv] (setItem ov iv v)
      release [v, ov, iv] []) := by intro _; rfl)
    (hs : swapsWithSole [.Subscript o ix spos] e pos.line X.env = pure false := by rfl) (hw : swappedStores [.Subscript o ix spos] e X.env = pure none := by rfl)
    (h1 : (assignEach [.Subscript o ix spos] X.env).map (·.2) = [assign (.Subscript o ix spos) X.env] := by rfl) :
    SS X cf W (.Assign [.Subscript o ix spos] e pos) (sPut i f fi) := by
  refine ⟨_, ps_asg h.p (pg_sub po hi.p set_list ha) hs hw h1, fun R Hs env σ H F wf r D hp => ?_⟩
  refine h.s.bind r hp fun d env1 v Hs1 H1 s1 r1 p1 _ hp => ?_
  cases q0 : lstAt i env1 with
  | none => simp only [q0] at hp; exact hp.elim
  | some ds0 =>
    simp only [q0] at hp
    obtain ⟨p0, xs0, a1, a2, a3, a4⟩ := own_list r1 hk (lstAt_some q0)
    refine ⟨.ref p0, a1, ?_⟩
    refine hi.s.bind r1 (Post.mono s1.ex hp) fun k env2 vk Hs2 H2 s2 r2 p2 _ hp => ?_
    cases q : lstAt i env2 with
    | none => simp only [q] at hp; exact hp.elim
    | some ds =>
      simp only [q] at hp
      cases k with
      | int z =>
        simp only at hp
        cases qj : ixN ds.length z with
        | none => simp only [qj] at hp; exact hp.elim
        | some j =>
          simp only [qj] at hp
          obtain ⟨p, xs, h1, h2, h3, h4⟩ := own_list r2 hk (lstAt_some q)
          have ep : p = p0 := by rw [h1] at a1; cases a1; rfl
          subst ep
          refine ⟨p, xs, z, j, rfl, p2.int_inv, h3, by rw [h4.length]; exact qj, ?_⟩
          exact hp Hs2 σ _ F wf s2.ex (r2.mut (i := i) (p := p) (v := .ref p) (d0 := .lst ds) (by rw [h2]; exact List.mem_cons_self) (lstAt_some q) h1 (by
              rw [hk, h2]
              exact ⟨Own.lst upd_same (ownL_of (h4.set j (p1.mono (rs_mono s2.ex)))), fun z => (by cases z), Nat.le_refl _⟩))
      | _ => exact hp.elim
theorem ss_putW {i : Nat} {o ix e : Expr} {te ti : TE} {f fi : M D} {spos pos : Pos} (po : PE X o (tVar i)) (hk : cf.kd i = .W) (h : SE X cf W c n e te f) (hi : SE X cf W c n1 ix ti fi)
    (ha : ∀ v, assign (.Subscript o ix spos) X.env v = (do
      let ov ← holding [v] (eval o X.env)
      let iv ← holding [v, ov] (eval ix X.env)
      standAt spos
      holding [v, ov, iv] (setItem ov iv v)
      release [v, ov, iv] []) := by intro _; rfl)
    (hs : swapsWithSole [.Subscript o ix spos] e pos.line X.env = pure false := by rfl) (hw : swappedStores [.Subscript o ix spos] e X.env = pure none := by rfl)
    (h1 : (assignEach [.Subscript o ix spos] X.env).map (·.2) = [assign (.Subscript o ix spos) X.env] := by rfl) :
    SS X cf W (.Assign [.Subscript o ix spos] e pos) (sPutW i f fi) := by
  refine ⟨_, ps_asg h.p (pg_sub po hi.p set_list ha) hs hw h1, fun R Hs env σ H F wf r D hp => ?_⟩
  refine h.s.bind r hp fun d env1 v Hs1 H1 s1 r1 p1 _ hp => ?_
  cases q0 : lstAt i env1 with
  | none => simp only [q0] at hp; exact hp.elim
  | some ds0 =>
    simp only [q0] at hp
    obtain ⟨p0, xs0, dz, _, a1, a2, a3, a4, a5⟩ := own_listW r1 hk (lstAt_some q0)
    refine ⟨.ref p0, a1, ?_⟩
    refine hi.s.bind r1 (Post.mono s1.ex hp) fun k env2 vk Hs2 H2 s2 r2 p2 _ hp => ?_
    cases q : lstAt i env2 with
    | none => simp only [q] at hp; exact hp.elim
    | some ds =>
      simp only [q] at hp
      cases k with
      | int z =>
        simp only at hp
        cases qj : ixN ds.length z with
        | none => simp only [qj] at hp; exact hp.elim
        | some j =>
          simp only [qj] at hp
          split at hp
          · rename_i hsc
            obtain ⟨p, xs, ds', e1, h1, h2, h3, h4, h5⟩ := own_listW r2 hk (lstAt_some q)
            cases e1
            have ep : p = p0 := by rw [h1] at a1; cases a1; rfl
            subst ep
            refine ⟨p, xs, z, j, rfl, p2.int_inv, h3, by rw [h5.length]; exact qj, ?_⟩
            exact hp Hs2 σ _ F wf s2.ex (r2.mut (i := i) (p := p) (v := .ref p) (d0 := .lst ds) (by rw [h2]; exact List.mem_cons_self) (lstAt_some q) h1 (by
                rw [hk, h2]
                refine ⟨p, _, _, rfl, rfl, rfl, upd_same, ?_, h5.set j (p1.sc_any hsc _ _)⟩
                rw [List.all_eq_true]
                intro y hy
                rcases List.mem_or_eq_of_mem_set hy with hy | hy
                · exact List.all_eq_true.mp h4 y hy
                · rw [hy]; exact hsc))
          · exact hp.elim
      | _ => exact hp.elim
def eIxW (i : Nat) (f : M D) : M D := fun e => match lstAt i e with
  | none => .stuck
  | some _ => bnd f (fun k => fun e => match lstAt i e, k with
    | some ds, .int z => lift (atI ds z) e
    | _, _ => .stuck) e
theorem atI_mem {α : Type} {l : List α} {i : Int} {x : α} (h : atI l i = some x) : x ∈ l := by
  obtain ⟨j, _, h2, _⟩ := atI_get h
  exact List.mem_of_getElem? h2
theorem se_ixW {i : Nat} {o ix : Expr} {ti : TE} {f : M D} {pos : Pos} (hK : cf.K = X.K) (po : PE X o (tVar i)) (hk : cf.kd i = .W) (h : SE X cf W c n ix ti f) (hs : PlainIx ix) : SE X cf W .V true (.Subscript o ix pos) (tOp (rIx cf.K) (tVar i) ti) (eIxW i f) := by
  rw [hK]
  refine ⟨pe_ix ix_seq po h.p hs, Sd.mk (fun R Hs env σ H F wf r d env' q Q k => ?_) (fun R Hs env σ H F wf r x env' q Q k => ?_)⟩
  · unfold eIxW at q
    cases q0 : lstAt i env with
    | none => simp only [q0] at q; cases q
    | some ds0 =>
      simp only [q0] at q
      obtain ⟨p0, xs0, dz, _, a1, a2, a3, a4, a5⟩ := own_listW r hk (lstAt_some q0)
      refine ⟨.ref p0, a1, ?_⟩
      obtain ⟨kd, env1, q1, q2⟩ := bnd_ok q
      refine h.s.ok r q1 fun v Hs1 H1 s1 r1 p1 _ => ?_
      cases q3 : lstAt i env1 with
      | none => simp only [q3] at q2; cases q2
      | some ds =>
        simp only [q3] at q2
        cases kd with
        | int z =>
          obtain ⟨qg, rfl⟩ := lift_ok q2
          obtain ⟨p, xs, ds', e1, h1, h2, h3, h4, h5⟩ := own_listW r1 hk (lstAt_some q3)
          cases e1
          have ep : p = p0 := by rw [h1] at a1; cases a1; rfl
          subst ep
          obtain ⟨w, hw, hr⟩ := atI_rp h5 qg
          have hsc : d.sc = true := List.all_eq_true.mp h4 d (atI_mem qg)
          exact .inl ⟨p, xs, z, w, rfl, p1.int_inv, .inl (.inl h3), hw, k w Hs1 H1 s1 r1 (hr.sc_any hsc _ _) fun _ _ => hr.sc_any hsc _ _⟩
        | _ => cases q2
  · unfold eIxW at q
    cases q0 : lstAt i env with
    | none => simp only [q0] at q; cases q
    | some ds0 =>
      simp only [q0] at q
      obtain ⟨p0, xs0, dz, _, a1, a2, a3, a4, a5⟩ := own_listW r hk (lstAt_some q0)
      refine ⟨.ref p0, a1, ?_⟩
      rcases bnd_ex q with q | ⟨kd, env1, q1, q2⟩
      · exact h.s.exn r q k
      · cases q3 : lstAt i env1 with
        | none => simp only [q3] at q2; cases q2
        | some ds =>
          simp only [q3] at q2
          cases kd with
          | int z => exact (lift_ex q2).elim
          | _ => cases q2
end
end MV
namespace MV
open PySem PySem.Spec PyProof.Rows L2
def spP (K : PySem.W.Frag) (cv : Str → Value) (m : Nat) (F : List D → FR) : Sp := fun vs H Q E => vs.length = m ∧ ∃ ds, RpL K true H vs ds ∧ match F ds with
  | .ok d _ => ∀ v H', Ex H H' → Rp K true (nw H H') v d → Q v H'
  | .ex x _ => ∀ H', Ex H H' → E (cv x) none H'
  | .stuck => False
def spW (K : PySem.W.Frag) (cv : Str → Value) (m : Nat) (F : List D → FR) : Sp := fun vs H Q E => vs.length = m ∧ ∃ p xs ds0 vs' ds, vs = .ref p :: vs' ∧ H p = some (.lst xs) ∧ ds0.all D.sc = true ∧ RpL K true emp xs ds0 ∧ RpL K true (rm H [p]) vs' ds ∧ match F (.lst ds0 :: ds) with
  | .ok d io => ∀ v H' xs' ds', io = .lst ds' → ds'.all D.sc = true → RpL K true emp xs' ds' → Ex (upd H p (.lst xs')) H' → Rp K true (nw H H') v d → Q v H'
  | .ex x io => ∀ H' xs' ds', io = .lst ds' → ds'.all D.sc = true → RpL K true emp xs' ds' → Ex (upd H p (.lst xs')) H' → E (cv x) none H'
  | .stuck => False
def frD (r : FR) : M D := fun e => match r with
  | .ok d _ => .ok d e
  | .ex x _ => .ex x e
  | .stuck => .stuck
def eCall (F : List D → FR) (a : M (List D)) : M D := bnd a fun ds => frD (F ds)
def frW (i : Nat) (r : FR) : M D := fun e => match r with
  | .ok d io => if wok io then .ok d (e.set i (some io)) else .stuck
  | .ex x io => if wok io then .ex x (e.set i (some io)) else .stuck
  | .stuck => .stuck
def eCallW (F : List D → FR) (i : Nat) (a : M (List D)) : M D := fun e => match lstAt i e with
  | none => .stuck
  | some _ => bnd a (fun ds => fun e => match lstAt i e with
    | some ds0 => frW i (F (.lst ds0 :: ds)) e
    | none => .stuck) e
section
variable {X : Cx} {cf : Cf} {W : WX} {c : Cls} {n n1 n2 : Bool}
theorem nw_rs {Hs H H1 H' : Hp} (d : ∀ a, H a ≠ none → H1 a ≠ none) : Ex (nw H1 H') (rs (grow Hs H1 H') H) := fun a o h => by
  cases q : H1 a with
  | some u => rw [nw_some q] at h; cases h
  | none =>
    rw [nw_none q] at h
    have : H a = none := by
      cases z : H a with
      | none => rfl
      | some u => exact absurd q (d a (by rw [z]; exact fun y => by cases y))
    rw [rs_none this, grow_none q]; exact h
theorem sd_call {F : List D → FR} {m : Nat} {ta : TA} {fa : M (List D)} (h : SdA cf W .B ta fa) (hm : ∀ ds env env', fa env = .ok ds env' → ds.length = m) : Sd cf W .V true (tCallS (spP cf.K cf.cv m F) (WE W) ta) (eCall F fa) := by
  refine Sd.mk (fun R Hs env σ H F0 wf r d env' q Q k => ?_) (fun R Hs env σ H F0 wf r x env' q Q k => ?_)
  · obtain ⟨ds, env1, q1, q2⟩ := bnd_ok q
    refine h.ok r q1 fun vs Hs1 H1 s1 r1 p1 => ?_
    refine ⟨by rw [p1.length]; exact hm _ _ _ q1, ds, p1.mono (rm_sub _ _), ?_⟩
    cases qf : F ds with
    | ok d' io =>
      rw [qf] at q2
      cases q2
      intro v H' x pv
      have pv' : Rp cf.K true (rs (grow Hs1 H1 H') H) v d := pv.mono (nw_rs s1.dom)
      exact k v (grow Hs1 H1 H') H' (s1.trans (Stp.grow r1.exs x)) (r1.grow x) pv' fun _ _ => pv'
    | ex x io => rw [qf] at q2; cases q2
    | stuck => rw [qf] at q2; cases q2
  · rcases bnd_ex q with q | ⟨ds, env1, q1, q2⟩
    · exact h.exn r q k
    · refine h.ok r q1 fun vs Hs1 H1 s1 r1 p1 => ?_
      refine ⟨by rw [p1.length]; exact hm _ _ _ q1, ds, p1.mono (rm_sub _ _), ?_⟩
      cases qf : F ds with
      | ok d' io => rw [qf] at q2; cases q2
      | ex x' io =>
        rw [qf] at q2
        cases q2
        intro H' x
        exact k (grow Hs1 H1 H') H' (s1.trans (Stp.grow r1.exs x)) (r1.grow x)
      | stuck => rw [qf] at q2; cases q2
theorem sd_callW {F : List D → FR} {m i : Nat} {ta : TA} {fa : M (List D)} (hk : cf.kd i = .W) (h : SdA cf W .B ta fa) (hm : ∀ ds env env', fa env = .ok ds env' → ds.length + 1 = m) : Sd cf W .V true (tCallS (spW cf.K cf.cv m F) (WE W) (tCons (tVar i) ta)) (eCallW F i fa) := by
  have args : ∀ {R : Rs} {Hs1 H1 : Hp} {env1 : PEnv} {σ : L2.St} {F0 : Nat → List Addr} {wf : List Addr} {vs : List V} {ds : List D} {p : Addr}, Rel cf R Hs1 env1 σ H1 F0 wf → F0 i = [p] → RpL cf.K true (rm H1 wf) vs ds → RpL cf.K true (rm H1 [p]) vs ds := fun {R Hs1 H1 env1 σ F0 wf vs ds p} r1 e pa => pa.mono fun a o ha => by
    unfold rm at ha ⊢
    split at ha
    · cases ha
    · rename_i hw
      rw [if_neg (fun m => hw (r1.volw i hk a (by rw [e]; exact m)))]
      exact ha
  have after : ∀ {R : Rs} {Hs1 H1 H' : Hp} {env1 : PEnv} {σ : L2.St} {F0 : Nat → List Addr} {wf : List Addr} {p : Addr} {xs' : List V} {ds0 ds' : List D}, Rel cf R Hs1 env1 σ H1 F0 wf → lstAt i env1 = some ds0 → σ[i]? = some (some (.ref p)) → F0 i = [p] → ds'.all D.sc = true → RpL cf.K true emp xs' ds' → Ex (upd H1 p (.lst xs')) H' →
      Stp cf wf env1 Hs1 H1 (env1.set i (some (.lst ds'))) (grow Hs1 H1 H') H' ∧ Rel cf R (grow Hs1 H1 H') (env1.set i (some (.lst ds'))) σ H' F0 wf := by
    intro R Hs1 H1 H' env1 σ F0 wf p xs' ds0 ds' r1 q0 hv hF hsc hr x
    have hp : p ∈ F0 i := by rw [hF]; exact List.mem_singleton.mpr rfl
    have r2 := r1.mut (i := i) (p := p) (o' := .lst xs') (v := .ref p) (d' := .lst ds') hp (lstAt_some q0) hv (by rw [hk, hF]; exact ⟨p, xs', ds', rfl, rfl, rfl, upd_same, hsc, hr⟩)
    have r3 := r2.grow x
    have eg : grow Hs1 (upd H1 p (.lst xs')) H' = grow Hs1 H1 H' := by
      funext a
      by_cases e : a = p
      · subst e
        have h1 : H1 a ≠ none := r1.fdom i a hp
        cases z : H1 a with
        | none => exact absurd z h1
        | some o => rw [grow_some z, grow_some (upd_same (H := H1) (a := a) (o := .lst xs'))]
      · unfold grow
        rw [upd_ne e]
    rw [eg] at r3
    refine ⟨⟨fun a h => ?_, ?_, fun a o hw h => ?_, fun a h => ?_, fun j hj => ?_⟩, r3⟩
    · by_cases e : a = p
      · subst e; exact x.dom (by rw [upd_same]; exact fun z => by cases z)
      · exact x.dom (by rw [upd_ne e]; exact h)
    · intro a o h
      rw [grow_some (r1.exs a o h)]; exact h
    · have : a ≠ p := fun e => by subst e; exact hw (r1.volw i hk _ hp)
      exact x a o (by rw [upd_ne this]; exact h)
    · cases z : H1 a with
      | none => exact absurd z h
      | some o => rw [grow_some z]
    · rw [List.getElem?_set_ne (fun e => by subst e; exact hj hk)]
  refine Sd.mk (fun R Hs env σ H F0 wf r d env' q Q k => ?_) (fun R Hs env σ H F0 wf r x env' q Q k => ?_)
  · unfold eCallW at q
    cases q0 : lstAt i env with
    | none => simp only [q0] at q; cases q
    | some ds00 =>
      simp only [q0] at q
      obtain ⟨p0, xs0, dz, _, a1, a2, a3, a4, a5⟩ := own_listW r hk (lstAt_some q0)
      refine ⟨.ref p0, a1, ?_⟩
      obtain ⟨ds, env1, q1, q2⟩ := bnd_ok q
      refine h.ok r q1 fun vs Hs1 H1 s1 r1 p1 => ?_
      cases q3 : lstAt i env1 with
      | none => simp only [q3] at q2; cases q2
      | some ds0 =>
        simp only [q3] at q2
        obtain ⟨p, xs, ds1, e1, h1, h2, h3, h4, h5⟩ := own_listW r1 hk (lstAt_some q3)
        cases e1
        have ep : p = p0 := by rw [h1] at a1; cases a1; rfl
        subst ep
        refine ⟨by rw [List.length_cons, p1.length]; exact hm _ _ _ q1, p, xs, ds0, vs, ds, rfl, h3, h4, h5, args r1 h2 p1, ?_⟩
        cases qf : F (.lst ds0 :: ds) with
        | ok d' io =>
          rw [qf] at q2
          unfold frW at q2
          simp only at q2
          split at q2
          · cases q2
            intro v H' xs' ds' eio hsc hr x pv
            subst eio
            obtain ⟨s2, r2⟩ := after r1 q3 h1 h2 hsc hr x
            have pv' : Rp cf.K true (rs (grow Hs1 H1 H') H) v d := pv.mono (nw_rs s1.dom)
            exact k v (grow Hs1 H1 H') H' (s1.trans s2) r2 pv' fun _ _ => pv'
          · cases q2
        | ex x io =>
          rw [qf] at q2
          unfold frW at q2
          simp only at q2
          split at q2 <;> cases q2
        | stuck => rw [qf] at q2; cases q2
  · unfold eCallW at q
    cases q0 : lstAt i env with
    | none => simp only [q0] at q; cases q
    | some ds00 =>
      simp only [q0] at q
      obtain ⟨p0, xs0, dz, _, a1, a2, a3, a4, a5⟩ := own_listW r hk (lstAt_some q0)
      refine ⟨.ref p0, a1, ?_⟩
      rcases bnd_ex q with q | ⟨ds, env1, q1, q2⟩
      · exact h.exn r q k
      · refine h.ok r q1 fun vs Hs1 H1 s1 r1 p1 => ?_
        cases q3 : lstAt i env1 with
        | none => simp only [q3] at q2; cases q2
        | some ds0 =>
          simp only [q3] at q2
          obtain ⟨p, xs, ds1, e1, h1, h2, h3, h4, h5⟩ := own_listW r1 hk (lstAt_some q3)
          cases e1
          have ep : p = p0 := by rw [h1] at a1; cases a1; rfl
          subst ep
          refine ⟨by rw [List.length_cons, p1.length]; exact hm _ _ _ q1, p, xs, ds0, vs, ds, rfl, h3, h4, h5, args r1 h2 p1, ?_⟩
          cases qf : F (.lst ds0 :: ds) with
          | ok d' io =>
            rw [qf] at q2
            unfold frW at q2
            simp only at q2
            split at q2 <;> cases q2
          | ex x' io =>
            rw [qf] at q2
            unfold frW at q2
            simp only at q2
            split at q2
            · cases q2
              intro H' xs' ds' eio hsc hr x
              subst eio
              obtain ⟨s2, r2⟩ := after r1 q3 h1 h2 hsc hr x
              exact k (grow Hs1 H1 H') H' (s1.trans s2) r2
            · cases q2
          | stuck => rw [qf] at q2; cases q2
theorem aLen_nil {ds : List D} {env env' : PEnv} (q : aNil env = .ok ds env') : ds.length = 0 := by cases q; rfl
theorem aLen_cons {fa : M D} {fr : M (List D)} {m : Nat} (h : ∀ ds env env', fr env = .ok ds env' → ds.length = m) {ds : List D} {env env' : PEnv} (q : aCons fa fr env = .ok ds env') : ds.length = m + 1 := by
  obtain ⟨d1, env1, q1, q⟩ := bnd_ok q
  obtain ⟨d2, env2, q2, q⟩ := bnd_ok q
  cases q
  rw [List.length_cons, h _ _ _ q2]
theorem se_call {F : List D → FR} {m k : Nat} {f : Addr} {fd : FuncData} {ps : List Str} {x : Str} {e : Expr} {es : List Expr} {ta : TA} {fa : M (List D)} {p pos : Pos} (hK : cf.K = X.K) (tk : L2N.Takes X W) (G : FnOk X.prog X.w X.K X.mg X.base (L2N.CX X.prog X.w) k f fd ps (spP X.K cf.cv m F)) (hr : Room k X.A) (hg : Gl X x) (hm : X.mg x = some (.ref f)) (hkp : PySem.W.keepIn X.K (.ref f) = true) (hb : Binds X.K fd ps []) (ha : SA X cf W .B (e :: es) ta fa) (hl : ∀ ds env env', fa env = .ok ds env' → ds.length = m)
    (hdb : (x == ("__debug__" : Str)) = false := by decide) (he : starEach (e :: es) X.env = (false, eval e X.env) :: starEach es X.env := by rfl) (hpl : (backTo pos (starEach es X.env)).any (·.1) = false := by rfl) :
    SE X cf W .V true (.Call (.Name x p) (e :: es) [] pos) (tCallS (spP cf.K cf.cv m F) (WE W) ta) (eCall F fa) := by
  refine ⟨?_, sd_call ha.s hl⟩
  rw [hK]
  exact pe_callS G hr hg hm hkp hb (fun σ => L2N.passAt tk σ) ha.p hdb he hpl
theorem se_callW {F : List D → FR} {m k i : Nat} {f : Addr} {fd : FuncData} {ps : List Str} {x : Str} {e : Expr} {es : List Expr} {ta : TA} {fa : M (List D)} {p pos : Pos} (hK : cf.K = X.K) (tk : L2N.Takes X W) (G : FnOk X.prog X.w X.K X.mg X.base (L2N.CX X.prog X.w) k f fd ps (spW X.K cf.cv m F)) (hr : Room k X.A) (hg : Gl X x) (hm : X.mg x = some (.ref f)) (hkp : PySem.W.keepIn X.K (.ref f) = true) (hb : Binds X.K fd ps []) (hk : cf.kd i = .W) (pe : PE X e (tVar i)) (ha : SA X cf W .B es ta fa) (hl : ∀ ds env env', fa env = .ok ds env' → ds.length + 1 = m)
    (hdb : (x == ("__debug__" : Str)) = false := by decide) (he : starEach (e :: es) X.env = (false, eval e X.env) :: starEach es X.env := by rfl) (hpl : (backTo pos (starEach es X.env)).any (·.1) = false := by rfl) :
    SE X cf W .V true (.Call (.Name x p) (e :: es) [] pos) (tCallS (spW cf.K cf.cv m F) (WE W) (tCons (tVar i) ta)) (eCallW F i fa) := by
  refine ⟨?_, sd_callW hk ha.s hl⟩
  rw [hK]
  exact pe_callS G hr hg hm hkp hb (fun σ => L2N.passAt tk σ) (pa_cons pe ha.p he) hdb he hpl
end
section
variable {P : Program} {w : World} {K : PySem.W.Frag} {mg : Str → Option Value} {base : Heap}
theorem start_get {N : List Str} {vs : List V} {i : Nat} {v : V} (h : vs[i]? = some v) : (L2.start N vs)[i]? = some (some v) := by
  unfold L2.start
  have hl : i < vs.length := (List.getElem?_eq_some_iff.mp h).1
  rw [List.getElem?_append_left (by rw [List.length_map]; exact hl), List.getElem?_map, h]
  rfl
theorem envOf_get {n : Nat} {ds : List D} {i : Nat} {d : D} (h : (envOf n ds)[i]? = some (some d)) : ds[i]? = some d := by
  unfold envOf at h
  by_cases hl : i < ds.length
  · rw [List.getElem?_append_left (by rw [List.length_map]; exact hl), List.getElem?_map] at h
    cases q : ds[i]? with
    | none => rw [q] at h; cases h
    | some d' => rw [q] at h; cases h; rfl
  · rw [List.getElem?_append_right (by rw [List.length_map]; omega), List.getElem?_replicate] at h
    split at h <;> cases h
theorem env_len {N : List Str} {ds : List D} {vs : List V} (h : vs.length = ds.length) : (envOf N.length ds).length = (L2.start N vs).length := by
  unfold envOf L2.start
  rw [List.length_append, List.length_append, List.length_map, List.length_map, List.length_replicate, List.length_replicate, h]
theorem okN {x qual : Str} {st : Stmt} {f : Addr} {fd : FuncData} {N ps : List Str} {k : Nat} {sp : Sp} (F : Fun K x qual st f fd) (S : FnScope N ps (defScope st)) (len : ∀ vs H Q E, sp vs H Q E → vs.length = ps.length)
    (hb : ∀ (cdv : Value) (A : Around) (outer : List Env) (s : Shared) (H : Hp) (vs : List V) (Q : VK) (E : XK), Room k (A.deeper (envOfC qual (defScope st) s.heap.objs.size f cdv)) → sp vs H Q E →
      ∃ t, PSs (cxOf (L2N.CX P w) P w K mg base N qual (defScope st) f cdv A outer s H E) (defBody st) t ∧ t { nx := fun _ H' => Q .non H', rt := Q } (L2.start N vs) H) : FnOk P w K mg base (L2N.CX P w) (k + 1) f fd ps sp := by
  obtain ⟨oc, od, kV, doc, pm, an, cdv, ct, osl, e, lk, hcd⟩ := F.ex
  subst e
  exact fn_of lk hcd S len fun A outer s H vs Q E hr h => hb cdv A outer s H vs Q E hr h
theorem takes0N {X : Cx} : L2N.Takes X (fun _ _ _ _ => False) := fun u s' x => by
  obtain ⟨a, B, sI, pins, σ, H, cls, d, _, _, _, _, _, _, _, _, z⟩ := x
  exact z.elim
theorem fn_P {x qual : Str} {st : Stmt} {f : Addr} {fd : FuncData} (N ps : List Str) (mN mP : Nat) {k : Nat} (cf : Cf) (g : M Fl) (hN : N.length = mN) (hP : ps.length = mP) (F : Fun K x qual st f fd) (S : FnScope N ps (defScope st)) (hK : cf.K = K) (hk : ∀ i, i < ps.length → cf.kd i = .S)
    (hbody : ∀ (cdv : Value) (A : Around) (outer : List Env) (s : Shared) (H : Hp) (E : XK), Room k (A.deeper (envOfC qual (defScope st) s.heap.objs.size f cdv)) → L2N.Takes (cxOf (L2N.CX P w) P w K mg base N qual (defScope st) f cdv A outer s H E) (fun cls d _ H => E cls d H) →
      PassesOwn (model P w) (A.deeper (envOfC qual (defScope st) s.heap.objs.size f cdv)) (envOfC qual (defScope st) s.heap.objs.size f cdv) (cxOf (L2N.CX P w) P w K mg base N qual (defScope st) f cdv A outer s H E).xe →
      SSs (cxOf (L2N.CX P w) P w K mg base N qual (defScope st) f cdv A outer s H E) cf (fun cls d _ H => E cls d H) (defBody st) g) :
    FnOk P w K mg base (L2N.CX P w) (k + 1) f fd ps (spP K cf.cv mP (runF mN g)) := by
  subst hN hP
  refine okN F S (fun vs H Q E h => h.1) (fun cdv A outer s H vs Q E hr h => ?_)
  obtain ⟨hl, ds, hd, h⟩ := h
  obtain ⟨t, p, sd⟩ := hbody cdv A outer s H E hr (L2N.takes_of rfl rfl rfl rfl) (passes_of rfl)
  refine ⟨t, p, ?_⟩
  have r : Rel cf ⟨H, none⟩ H (envOf N.length ds) (L2.start N vs) H (fun _ => []) [] :=
    { len := env_len hd.length
      exs := Ex.refl _
      ex0 := fun a o h _ => h
      dom0 := fun a h => h
      slot := fun i d q => by
        have q := envOf_get q
        obtain ⟨v, h1, h2⟩ := hd.get q
        refine ⟨v, start_get h1, ?_⟩
        rw [hk i (by rw [← hl, hd.length]; exact (List.getElem?_eq_some_iff.mp q).1), hK]
        exact h2
      nod := fun _ => List.nodup_nil
      dis := fun _ _ _ _ m => by cases m
      fdom := fun _ _ m => by cases m
      uns := fun _ _ m => by cases m
      new := fun _ _ m => by cases m
      volw := fun _ _ _ m => by cases m
      volb := fun _ _ _ m => by cases m
      wdom := fun _ m => by cases m
      ior := fun p h => by cases h }
  refine sd _ _ _ _ _ _ _ r _ ?_
  unfold runF at h
  have exH : ∀ {Hs' H' : Hp} {env' : PEnv} {σ' : L2.St} {F' : Nat → List Addr} {wf' : List Addr}, Rel cf ⟨H, none⟩ Hs' env' σ' H' F' wf' → Ex H H' := fun r' a o ha => r'.exs a o (r'.ex0 a o ha (fun z => by cases z))
  cases q : g (envOf N.length ds) with
  | stuck => rw [q] at h; exact h.elim
  | ex c e =>
    rw [q] at h
    exact fun Hs' σ' H' F' wf' _ r' => h H' (exH r')
  | ok fl e =>
    rw [q] at h
    cases fl with
    | nx => exact fun Hs' σ' H' F' wf' _ r' => h .non H' (exH r') .non
    | rt d => exact fun v Hs' σ' H' F' wf' _ r' pv => h v H' (exH r') (by
        rw [← hK]
        exact pv.mono fun a o ha => by
          have ha : rs (rm H' wf') H a = some o := ha
          cases z : H a with
          | none => rw [rs_none z] at ha; rw [nw_none z]; exact rm_sub _ _ a o ha
          | some u => rw [rs_some z] at ha; cases ha)
    | bk => exact h.elim
    | ct => exact h.elim
theorem ioOf_get {e : PEnv} {d : D} (h : e[0]? = some (some d)) : ioOf e = d := by
  cases e with
  | nil => cases h
  | cons a r =>
    have : a = some d := by simpa using h
    subst this
    rfl
theorem fn_W {x qual : Str} {st : Stmt} {f : Addr} {fd : FuncData} (N ps : List Str) (mN mP : Nat) {k : Nat} (cf : Cf) (g : M Fl) (hN : N.length = mN) (hP : ps.length = mP) (F : Fun K x qual st f fd) (S : FnScope N ps (defScope st)) (hK : cf.K = K) (h0 : cf.kd 0 = .W) (hk : ∀ i, 0 < i → i < ps.length → cf.kd i = .S)
    (hbody : ∀ (cdv : Value) (A : Around) (outer : List Env) (s : Shared) (H : Hp) (E : XK), Room k (A.deeper (envOfC qual (defScope st) s.heap.objs.size f cdv)) → L2N.Takes (cxOf (L2N.CX P w) P w K mg base N qual (defScope st) f cdv A outer s H E) (fun cls d _ H => E cls d H) →
      PassesOwn (model P w) (A.deeper (envOfC qual (defScope st) s.heap.objs.size f cdv)) (envOfC qual (defScope st) s.heap.objs.size f cdv) (cxOf (L2N.CX P w) P w K mg base N qual (defScope st) f cdv A outer s H E).xe →
      SSs (cxOf (L2N.CX P w) P w K mg base N qual (defScope st) f cdv A outer s H E) cf (fun cls d _ H => E cls d H) (defBody st) g) :
    FnOk P w K mg base (L2N.CX P w) (k + 1) f fd ps (spW K cf.cv mP (runF mN g)) := by
  subst hN hP
  refine okN F S (fun vs H Q E h => h.1) (fun cdv A outer s H vs Q E hr h => ?_)
  obtain ⟨hl, p, xs, ds0, vs', ds, rfl, hp, hsc, hr0, hd, h⟩ := h
  obtain ⟨t, pt, sd⟩ := hbody cdv A outer s H E hr (L2N.takes_of rfl rfl rfl rfl) (passes_of rfl)
  refine ⟨t, pt, ?_⟩
  have hpm : p ∈ [p] := List.mem_singleton.mpr rfl
  have r : Rel cf ⟨H, some p⟩ (rm H [p]) (envOf N.length (.lst ds0 :: ds)) (L2.start N (.ref p :: vs')) H (fun i => if i = 0 then [p] else []) [p] :=
    { len := env_len (by rw [List.length_cons, List.length_cons, hd.length])
      exs := rm_sub _ _
      ex0 := fun a o h n => by
        unfold rm
        rw [if_neg (fun m => n (by rw [List.mem_singleton.mp m]))]
        exact h
      dom0 := fun a h => h
      slot := fun i d q => by
        have q := envOf_get q
        cases i with
        | zero =>
          have q : D.lst ds0 = d := by simpa using q
          subst q
          refine ⟨.ref p, start_get rfl, ?_⟩
          rw [h0]
          exact ⟨p, xs, ds0, rfl, rfl, rfl, hp, hsc, by rw [hK]; exact hr0⟩
        | succ i =>
          have q : ds[i]? = some d := by simpa using q
          obtain ⟨v, h1, h2⟩ := hd.get q
          refine ⟨v, start_get (by simpa using h1), ?_⟩
          rw [hk (i + 1) (Nat.succ_pos i) (by rw [← hl, List.length_cons, hd.length]; exact Nat.succ_lt_succ (List.getElem?_eq_some_iff.mp q).1), hK]
          exact h2
      nod := fun i => by
        show (if i = 0 then [p] else []).Nodup
        split <;> simp
      dis := fun i j ne a m => by
        by_cases e : i = 0
        · rw [if_neg (fun z => ne (by rw [e, z]))]; exact fun z => by cases z
        · rw [if_neg e] at m; cases m
      fdom := fun i a m => by
        by_cases e : i = 0
        · rw [if_pos e] at m; rw [List.mem_singleton.mp m, hp]; exact fun z => by cases z
        · rw [if_neg e] at m; cases m
      uns := fun i a m => by
        by_cases e : i = 0
        · rw [if_pos e] at m; unfold rm; rw [if_pos m]
        · rw [if_neg e] at m; cases m
      new := fun i a m => by
        by_cases e : i = 0
        · rw [if_pos e] at m; exact .inl (by rw [List.mem_singleton.mp m])
        · rw [if_neg e] at m; cases m
      volw := fun i _ a m => by
        by_cases e : i = 0
        · rw [if_pos e] at m; exact m
        · rw [if_neg e] at m; cases m
      volb := fun i hw a m => by
        by_cases e : i = 0
        · subst e; exact absurd h0 hw
        · rw [if_neg e] at m; cases m
      wdom := fun a m => ⟨by rw [List.mem_singleton.mp m, hp]; exact (fun z => by cases z), by unfold rm; rw [if_pos m]⟩
      ior := fun q e => by
        cases e
        exact ⟨start_get rfl, if_pos rfl, h0, .lst ds0, by
          unfold envOf
          rfl⟩ }
  refine sd _ _ _ _ _ _ _ r _ ?_
  unfold runF at h
  have aft : ∀ {Hs' H' : Hp} {env' : PEnv} {σ' : L2.St} {F' : Nat → List Addr} {wf' : List Addr}, Rel cf ⟨H, some p⟩ Hs' env' σ' H' F' wf' → ∃ xs' ds', ioOf env' = .lst ds' ∧ ds'.all D.sc = true ∧ RpL K true emp xs' ds' ∧ Ex (upd H p (.lst xs')) H' := fun {Hs' H' env' σ' F' wf'} r' => by
    obtain ⟨g1, g2, g3, d, g4⟩ := r'.ior p rfl
    obtain ⟨v, s1, s2⟩ := r'.slot 0 d g4
    rw [h0] at s2
    obtain ⟨p2, xs', ds', e1, e2, e3, e4, e5, e6⟩ := s2
    rw [g2] at e3
    have e3 : p = p2 := by simpa using e3
    subst e3
    refine ⟨xs', ds', by rw [ioOf_get g4, e2], e5, by rw [← hK]; exact e6, fun a o ha => ?_⟩
    by_cases e : a = p
    · subst e; rw [upd_same] at ha; cases ha; exact e4
    · rw [upd_ne e] at ha
      exact r'.exs a o (r'.ex0 a o ha (fun z => by cases z; exact e rfl))
  cases q : g (envOf N.length (.lst ds0 :: ds)) with
  | stuck => rw [q] at h; exact h.elim
  | ex c e =>
    rw [q] at h
    intro Hs' σ' H' F' wf' _ r'
    obtain ⟨xs', ds', a1, a2, a3, a4⟩ := aft r'
    exact h H' xs' ds' a1 a2 a3 a4
  | ok fl e =>
    rw [q] at h
    cases fl with
    | nx =>
      intro Hs' σ' H' F' wf' _ r'
      obtain ⟨xs', ds', a1, a2, a3, a4⟩ := aft r'
      exact h .non H' xs' ds' a1 a2 a3 a4 .non
    | rt d =>
      intro v Hs' σ' H' F' wf' _ r' pv
      obtain ⟨xs', ds', a1, a2, a3, a4⟩ := aft r'
      refine h v H' xs' ds' a1 a2 a3 a4 ?_
      rw [← hK]
      exact pv.mono fun a o ha => by
        have ha : rs (rm H' wf') H a = some o := ha
        cases z : H a with
        | none => rw [rs_none z] at ha; rw [nw_none z]; exact rm_sub _ _ a o ha
        | some u => rw [rs_some z] at ha; cases ha
    | bk => exact h.elim
    | ct => exact h.elim
end
end MV
namespace MV
open PySem PySem.Spec PyProof.Rows L2
section
variable {X : Cx} {cf : Cf} {W : WX} {c ca cb : Cls} {n n1 n2 : Bool} {a b : Expr} {ta tb : TE} {fa fb : M D} {pos : Pos}
theorem se_add (ha : SE X cf W c n1 a ta fa) (hb : SE X cf W c n2 b tb fb) : SE X cf W c true (.BinOp a .Add b pos) (tOp rAdd3 ta tb) (e2 gAdd fa fb) := se_bin op_add3 snd_add ha hb
theorem se_mul (ha : SE X cf W c n1 a ta fa) (hb : SE X cf W c n2 b tb fb) : SE X cf W c true (.BinOp a .Mult b pos) (tOp rMul2 ta tb) (e2 gMul fa fb) := se_bin op_mul2 snd_mul ha hb
theorem sc_sub : ScF (e2 gSub fa fb) := gI2_sc fun i j d h => by cases h; rfl
theorem sc_fdiv : ScF (e2 gFdiv fa fb) := gI2_sc fun i j d h => by split at h <;> cases h; rfl
theorem sc_mod : ScF (e2 gMod fa fb) := gI2_sc fun i j d h => by split at h <;> cases h; rfl
theorem sc_pow : ScF (e2 gPow fa fb) := gI2_sc fun i j d h => by split at h <;> cases h; rfl
theorem sc_ge : ScF (e2 gGe fa fb) := gI2_sc fun i j d h => by cases h; rfl
theorem sc_map {o : Option Bool} {g : Bool → Bool} {d : D} (h : (o.map fun k => D.bl (g k)) = some d) : d.sc = true := by
  cases o with
  | none => cases h
  | some b => cases h; rfl
theorem sc_eq : ScF (e2 gEq fa fb) := e2_sc fun x y d h => sc_map (g := id) h
theorem sc_ne : ScF (e2 gNe fa fb) := e2_sc fun x y d h => sc_map h
theorem sc_isN : ScF (e2 gIsN fa fb) := e2_sc fun x y d h => by
  unfold gIsN at h
  split at h
  · exact sc_map (g := id) h
  · cases h
theorem se_sub (ha : SE X cf W ca n1 a ta fa) (hb : SE X cf W cb n2 b tb fb) : SE X cf W .V true (.BinOp a .Sub b pos) (tOp (rI0 fun i j => .int (i - j)) ta tb) (e2 gSub fa fb) := (se_bin op_sub snd_sub ha.b hb.b).low sc_sub
theorem se_fdiv (ha : SE X cf W ca n1 a ta fa) (hb : SE X cf W cb n2 b tb fb) : SE X cf W .V true (.BinOp a .FloorDiv b pos) (tOp rFdiv ta tb) (e2 gFdiv fa fb) := (se_bin (op_fdiv.or op_fdivW) snd_fdiv ha.b hb.b).low sc_fdiv
theorem se_mod (ha : SE X cf W ca n1 a ta fa) (hb : SE X cf W cb n2 b tb fb) : SE X cf W .V true (.BinOp a .Mod b pos) (tOp (rI (fun _ j => 0 < j) fun i j => .int (i % j)) ta tb) (e2 gMod fa fb) := (se_bin op_mod snd_mod ha.b hb.b).low sc_mod
theorem se_pow (ha : SE X cf W ca n1 a ta fa) (hb : SE X cf W cb n2 b tb fb) : SE X cf W .V true (.BinOp a .Pow b pos) (tOp (rI CPow fun i j => .int (i ^ j.toNat)) ta tb) (e2 gPow fa fb) := (se_bin op_pow snd_pow ha.b hb.b).low sc_pow
theorem se_neg (ha : SE X cf W ca n1 a ta fa) : SE X cf W .V true (.UnaryOp .USub a pos) (tUn (rU fun i => .int (-i)) ta) (e1 gNeg fa) := (se_una un_neg snd_neg ha.b).low (e1_sc fun x d h => by
  unfold gNeg at h
  split at h <;> cases h; rfl)
theorem se_ge (ha : SE X cf W ca n1 a ta fa) (hb : SE X cf W cb n2 b tb fb) : SE X cf W .V true (.Compare a [.GtE] [b] pos) (tOp (rI0 fun i j => .bl (decide (j ≤ i))) ta tb) (e2 gGe fa fb) := (se_cmp op_ge snd_ge ha.b hb.b (nomark _)).low sc_ge
theorem se_eq (hK : cf.K = X.K) (hu : X.A.units + 64 < cLine) (ha : SE X cf W ca n1 a ta fa) (hb : SE X cf W cb n2 b tb fb) : SE X cf W .V true (.Compare a [.Eq] [b] pos) (tOp (rEq2 cf.K) ta tb) (e2 gEq fa fb) := by
  rw [hK]
  exact (se_cmp (op_eq2 hu) (by rw [hK]; exact snd_eq) ha.b hb.b (nomark _)).low sc_eq
theorem se_ne (hK : cf.K = X.K) (hu : X.A.units + 64 < cLine) (ha : SE X cf W ca n1 a ta fa) (hb : SE X cf W cb n2 b tb fb) : SE X cf W .V true (.Compare a [.NotEq] [b] pos) (tOp (rNe2 cf.K) ta tb) (e2 gNe fa fb) := by
  rw [hK]
  exact (se_cmp (op_ne2 hu) (by rw [hK]; exact snd_ne) ha.b hb.b (nomark _)).low sc_ne
theorem se_isN (ha : SE X cf W ca n1 a ta fa) (hb : SE X cf W cb n2 b tb fb) : SE X cf W .V true (.Compare a [.Is] [b] pos) (tOp (fun x y H Q => y = .non ∧ Q (.bl (decide (x = .non))) H) ta tb) (e2 gIsN fa fb) := (se_cmp op_isN snd_isN ha.b hb.b (nomark _)).low sc_isN
theorem st_lt (ha : SE X cf W ca n1 a ta fa) (hb : SE X cf W cb n2 b tb fb) : ST X cf W (.Compare a [.Lt] [b] pos) (tTest (tOp (rI0 fun i j => .bl (decide (i < j))) ta tb)) (tB (e2 gLt fa fb)) := st_cmp op_lt snd_lt ha.b hb.b (nomark _)
theorem st_le (ha : SE X cf W ca n1 a ta fa) (hb : SE X cf W cb n2 b tb fb) : ST X cf W (.Compare a [.LtE] [b] pos) (tTest (tOp (rI0 fun i j => .bl (decide (i ≤ j))) ta tb)) (tB (e2 gLe fa fb)) := st_cmp op_le snd_le ha.b hb.b (nomark _)
theorem st_gt (ha : SE X cf W ca n1 a ta fa) (hb : SE X cf W cb n2 b tb fb) : ST X cf W (.Compare a [.Gt] [b] pos) (tTest (tOp (rI0 fun i j => .bl (decide (j < i))) ta tb)) (tB (e2 gGt fa fb)) := st_cmp op_gt snd_gt ha.b hb.b (nomark _)
theorem st_ge (ha : SE X cf W ca n1 a ta fa) (hb : SE X cf W cb n2 b tb fb) : ST X cf W (.Compare a [.GtE] [b] pos) (tTest (tOp (rI0 fun i j => .bl (decide (j ≤ i))) ta tb)) (tB (e2 gGe fa fb)) := st_cmp op_ge snd_ge ha.b hb.b (nomark _)
theorem st_eq (hK : cf.K = X.K) (hu : X.A.units + 64 < cLine) (ha : SE X cf W ca n1 a ta fa) (hb : SE X cf W cb n2 b tb fb) : ST X cf W (.Compare a [.Eq] [b] pos) (tTest (tOp (rEq2 cf.K) ta tb)) (tB (e2 gEq fa fb)) := by
  rw [hK]
  exact st_cmp (op_eq2 hu) (by rw [hK]; exact snd_eq) ha.b hb.b (nomark _)
theorem st_ne (hK : cf.K = X.K) (hu : X.A.units + 64 < cLine) (ha : SE X cf W ca n1 a ta fa) (hb : SE X cf W cb n2 b tb fb) : ST X cf W (.Compare a [.NotEq] [b] pos) (tTest (tOp (rNe2 cf.K) ta tb)) (tB (e2 gNe fa fb)) := by
  rw [hK]
  exact st_cmp (op_ne2 hu) (by rw [hK]; exact snd_ne) ha.b hb.b (nomark _)
theorem st_isN (ha : SE X cf W ca n1 a ta fa) (hb : SE X cf W cb n2 b tb fb) : ST X cf W (.Compare a [.Is] [b] pos) (tTest (tOp (fun x y H Q => y = .non ∧ Q (.bl (decide (x = .non))) H) ta tb)) (tB (e2 gIsN fa fb)) := st_cmp op_isN snd_isN ha.b hb.b (nomark _)
theorem st_notN (ha : SE X cf W ca n1 a ta fa) (hb : SE X cf W cb n2 b tb fb) : ST X cf W (.Compare a [.IsNot] [b] pos) (tTest (tOp (fun x y H Q => y = .non ∧ Q (.bl (!decide (x = .non))) H) ta tb)) (tB (e2 gNotN fa fb)) := st_cmp op_notN snd_notN ha.b hb.b (nomark _)
theorem st_notIn (hK : cf.K = X.K) (ha : SE X cf W ca n1 a ta fa) (hb : SE X cf W cb n2 b tb fb) (hm : behindInMarks .NotIn b = false := by rfl) : ST X cf W (.Compare a [.NotIn] [b] pos) (tTest (tOp (rNotIn2 cf.K) ta tb)) (tB (e2 gNotIn fa fb)) := by
  rw [hK]
  exact st_cmp op_notIn2 (by rw [hK]; exact snd_notIn) ha.b hb.b hm
variable {p : Pos} {tA : TA} {fA : M (List D)} {e : Expr} {es : List Expr}
theorem SA.one (h : SE X cf W ca n1 a ta fa) (hs : starEach [a] X.env = (false, eval a X.env) :: starEach [] X.env := by rfl) : SA X cf W .B [a] (tCons ta tNil) (aCons fa aNil) := sa_cons h.b sa_nil hs
theorem scN {g : List D → Option D} (hg : ∀ x d, g x = some d → d.sc = true) : ScF (eN g fA) := eN_sc hg
theorem sc_len (x : List D) (d : D) (h : gLen x = some d) : d.sc = true := by
  unfold gLen at h
  split at h
  · cases h; rfl
  · cases h; rfl
  · split at h <;> cases h; rfl
  · cases h
theorem sc_max2 (x : List D) (d : D) (h : gMax2 x = some d) : d.sc = true := by unfold gMax2 at h; split at h <;> cases h; rfl
theorem sc_int1 (x : List D) (d : D) (h : gInt1 x = some d) : d.sc = true := by unfold gInt1 at h; split at h <;> cases h <;> rfl
theorem sc_sum (x : List D) (d : D) (h : gSum x = some d) : d.sc = true := by
  unfold gSum at h
  split at h
  · rename_i ds
    cases z : asInts ds with
    | none => rw [z] at h; cases h
    | some ns => rw [z] at h; cases h; rfl
  · cases h
theorem sc_min1 (x : List D) (d : D) (h : gMin1 x = some d) : d.sc = true := by
  unfold gMin1 at h
  split at h
  · split at h
    · split at h <;> cases h; rfl
    · cases h
  · cases h
theorem se_len (hK : cf.K = X.K) (hm : X.mg "len" = none) (ha : SA X cf W ca (e :: es) tA fA) (hg : Gl X "len" := by rfl) (he : starEach (e :: es) X.env = (false, eval e X.env) :: starEach es X.env := by rfl) (hpl : (backTo pos (starEach es X.env)).any (·.1) = false := by rfl) :
    SE X cf W .V true (.Call (.Name "len" p) (e :: es) [] pos) (tCB (fun xs H Q => ∃ x n, xs = [x] ∧ LenV cf.K x H n ∧ Q (.int n) H) tA) (eN gLen fA) := by
  rw [hK]
  exact (se_cb call_len (n := true) (by rw [hK]; exact snd_len) hg hm PySem.boot_len ha (by decide) (by decide) he hpl).low (scN sc_len)
theorem se_max2 (hc : X.calm = true) (hm : X.mg "max" = none) (ha : SA X cf W ca (e :: es) tA fA) (hg : Gl X "max" := by rfl) (he : starEach (e :: es) X.env = (false, eval e X.env) :: starEach es X.env := by rfl) (hpl : (backTo pos (starEach es X.env)).any (·.1) = false := by rfl) :
    SE X cf W .V true (.Call (.Name "max" p) (e :: es) [] pos) (tCB (fun xs H Q => ∃ i j, xs = [.int i, .int j] ∧ Q (.int (if j > i then j else i)) H) tA) (eN gMax2 fA) := (se_cb (call_max2 hc) (n := true) snd_max2 hg hm (by decide +kernel) ha (by decide) (by decide) he hpl).low (scN sc_max2)
theorem se_min1 (hK : cf.K = X.K) (hc : X.calm = true) (hm : X.mg "min" = none) (ha : SA X cf W ca (e :: es) tA fA) (hg : Gl X "min" := by rfl) (he : starEach (e :: es) X.env = (false, eval e X.env) :: starEach es X.env := by rfl) (hpl : (backTo pos (starEach es X.env)).any (·.1) = false := by rfl) :
    SE X cf W .V true (.Call (.Name "min" p) (e :: es) [] pos) (tCB (rMin cf.K) tA) (eN gMin1 fA) := by
  rw [hK]
  exact (se_cb (cr_min hc) (n := true) (by rw [hK]; exact snd_min1) hg hm (by decide +kernel) ha (by decide) (by decide) he hpl).low (scN sc_min1)
theorem se_sum (hK : cf.K = X.K) (hc : X.calm = true) (hm : X.mg "sum" = none) (ha : SA X cf W ca (e :: es) tA fA) (hg : Gl X "sum" := by rfl) (he : starEach (e :: es) X.env = (false, eval e X.env) :: starEach es X.env := by rfl) (hpl : (backTo pos (starEach es X.env)).any (·.1) = false := by rfl) :
    SE X cf W .V true (.Call (.Name "sum" p) (e :: es) [] pos) (tCB (rSum cf.K) tA) (eN gSum fA) := by
  rw [hK]
  exact (se_cb (cr_sum hc) (n := true) (by rw [hK]; exact snd_sum) hg hm (by decide +kernel) ha (by decide) (by decide) he hpl).low (scN sc_sum)
theorem se_int1 (hm : X.mg "int" = none) (ha : SA X cf W ca (e :: es) tA fA) (hg : Gl X "int" := by rfl) (he : starEach (e :: es) X.env = (false, eval e X.env) :: starEach es X.env := by rfl) (hpl : (backTo pos (starEach es X.env)).any (·.1) = false := by rfl) :
    SE X cf W .V true (.Call (.Name "int" p) (e :: es) [] pos) (tCB (fun xs H Q => (∃ i, xs = [.int i] ∧ Q (.int i) H) ∨ ∃ k, xs = [.bl k] ∧ Q (.int (if k then 1 else 0)) H) tA) (eN gInt1 fA) := (se_ct call_int1 (n := true) snd_int1 hg hm (by decide +kernel) ha (by decide) (by decide) he hpl).low (scN sc_int1)
theorem se_list1 (hK : cf.K = X.K) (hm : X.mg "list" = none) (ha : SA X cf W c (e :: es) tA fA) (hg : Gl X "list" := by rfl) (he : starEach (e :: es) X.env = (false, eval e X.env) :: starEach es X.env := by rfl) (hpl : (backTo pos (starEach es X.env)).any (·.1) = false := by rfl) (hcm : X.calm = true := by rfl) :
    SE X cf W c true (.Call (.Name "list" p) (e :: es) [] pos) (tCB (rList1 cf.K) tA) (eN gList1 fA) := by
  rw [hK]
  exact se_ct (call_list_of.or (call_listS hcm)) (n := true) (by rw [hK]; exact snd_list1) hg hm (by decide +kernel) ha (by decide) (by decide) he hpl
end
end MV
namespace MV
open PySem PySem.Spec PyProof.Rows L2
def D.ty : D → Option String
  | .non => some "NoneType"
  | .bl _ => some "bool"
  | .int _ => some "int"
  | .str _ => some "str"
  | .lst _ => some "list"
  | .tup _ => some "tuple"
  | .dic _ => some "dict"
  | .dit _ => none
  | .exc _ => none
def isiB (a T : String) : Bool := a == T || (a == "bool" && T == "int")
def gIsi (T : String) (d : D) : Option D := match d.ty with
  | some a => some (.bl (isiB a T))
  | none => none
def eIsi (T : String) (f : M D) : M D := e1 (gIsi T) f
section
variable {X : Cx} {cf : Cf} {W : WX} {c ca cb : Cls} {n n1 n2 : Bool} {a b : Expr} {ta tb : TE} {fa fb : M D} {pos : Pos}
def eSlQ (i : Nat) (lo hi : M (Option Int)) : M D := fun e => match lstAt i e with
  | none => .stuck
  | some _ => bnd lo (fun l => bnd hi fun h => fun e => match lstAt i e with
    | some ds => if ds.all D.sc then .ok (.lst (cutA ds l h)) e else .stuck
    | none => .stuck) e
theorem q_list {R : Rs} {Hs : Hp} {env : PEnv} {σ : L2.St} {H : Hp} {F : Nat → List Addr} {wf : List Addr} {i : Nat} {ds : List D} (r : Rel cf R Hs env σ H F wf) (hk : cf.kd i = .Q) (h : lstAt i env = some ds) : ∃ p xs, σ[i]? = some (some (.ref p)) ∧ SqL cf.K H p xs ∧ RpL cf.K false Hs xs ds := by
  obtain ⟨v, h1, h2⟩ := r.slot i _ (lstAt_some h)
  rw [hk] at h2
  obtain ⟨a, xs, rfl, h3, h4⟩ := Rp.lst_inv h2
  exact ⟨a, xs, h1, ex_sql r.exs h3, h4⟩
theorem cut_all {ds : List D} {l h : Option Int} (hs : ds.all D.sc = true) : (cutA ds l h).all D.sc = true := by
  rw [List.all_eq_true] at hs ⊢
  intro x hx
  unfold cutA at hx
  exact hs x (List.mem_of_mem_drop (List.mem_of_mem_take hx))
theorem se_slQ {i : Nat} {o : Expr} {lo hi : Option Expr} {tl th : TO} {fl fh : M (Option Int)} {p2 : Pos} (hK : cf.K = X.K) (po : PE X o (tVar i)) (hk : cf.kd i = .Q) (hl : SO X cf W lo tl fl) (hh : SO X cf W hi th fh) : SE X cf W .V true (.Subscript o (.Slice lo hi none p2) pos) (tSl (rSlL cf.K) (tVar i) tl th) (eSlQ i fl fh) := by
  rw [hK]
  refine ⟨pe_slice sl_list po hl.p hh.p, Sd.mk (fun R Hs env σ H F wf r d env' q Q k => ?_) (fun R Hs env σ H F wf r x env' q Q k => ?_)⟩
  · unfold eSlQ at q
    cases q0 : lstAt i env with
    | none => simp only [q0] at q; cases q
    | some ds0 =>
      simp only [q0] at q
      obtain ⟨p0, xs0, a1, a2, a3⟩ := q_list r hk q0
      refine ⟨.ref p0, a1, ?_⟩
      obtain ⟨l, env1, q1, q⟩ := bnd_ok q
      obtain ⟨h, env2, q2, q⟩ := bnd_ok q
      refine hl.s.ok r q1 fun Hs1 H1 s1 r1 => hh.s.ok r1 q2 fun Hs2 H2 s2 r2 => ?_
      cases q3 : lstAt i env2 with
      | none => simp only [q3] at q; cases q
      | some ds =>
        simp only [q3] at q
        split at q
        · rename_i hsc
          cases q
          obtain ⟨p, xs, h1, h2, h3⟩ := q_list r2 hk q3
          have ep : p = p0 := by rw [h1] at a1; cases a1; rfl
          subst ep
          refine ⟨p, xs, rfl, by rw [← hK]; exact h2, fun pp hp => ?_⟩
          have rr : RpL cf.K true emp (cutV xs l h) (cutA ds l h) := (cutV_rp h3 l h).sc_any (cut_all hsc) _ _
          have hst : H pp = none := by
            cases z : H pp with
            | none => rfl
            | some u => exact absurd hp ((s1.trans s2).dom pp (by rw [z]; exact fun y => by cases y))
          have pv : Rp cf.K true (rs (grow Hs2 H2 (upd H2 pp (.lst (cutV xs l h)))) H) (.ref pp) (.lst (cutA ds l h)) := .lst (show rs _ H pp = _ by rw [rs_none hst, grow_none hp, upd_same]) (rr.sc_any (cut_all hsc) _ _)
          exact k _ (grow Hs2 H2 _) _ ((s1.trans s2).trans (Stp.grow r2.exs (Ex.new hp))) (r2.grow (Ex.new hp)) pv fun _ _ => pv
        · cases q
  · unfold eSlQ at q
    cases q0 : lstAt i env with
    | none => simp only [q0] at q; cases q
    | some ds0 =>
      simp only [q0] at q
      obtain ⟨p0, xs0, a1, a2, a3⟩ := q_list r hk q0
      refine ⟨.ref p0, a1, ?_⟩
      rcases bnd_ex q with q | ⟨l, env1, q1, q⟩
      · exact hl.s.exn r q k
      · rcases bnd_ex q with q | ⟨h, env2, q2, q⟩
        · exact hl.s.ok r q1 fun Hs1 H1 s1 r1 => hh.s.exn r1 q fun Hs2 H2 s2 r2 => k Hs2 H2 (s1.trans s2) r2
        · cases q3 : lstAt i env2 with
          | none => simp only [q3] at q; cases q
          | some ds => simp only [q3] at q; split at q <;> cases q
end
def spLaw (K : PySem.W.Frag) (F : List D → FR) : Sp := fun vs H Q _ => vs.length = 1 ∧ ∃ (a : Addr) (ns : List Int), vs = [.ref a] ∧ SqL K H a (ns.map V.int) ∧ (∃ io, F [.lst (ns.map .int)] = .ok (.bl true) io) ∧ ∀ H', Q (.bl true) H'
section
variable {P : Program} {w : World} {K : PySem.W.Frag} {mg : Str → Option Value} {base : Heap}
theorem rpl_ints {K : PySem.W.Frag} {x : Bool} {G : Hp} : ∀ ns : List Int, RpL K x G (ns.map V.int) (ns.map D.int)
  | [] => .nil
  | n :: ns => .cons (.int n) (rpl_ints ns)
theorem fn_law {x qual : Str} {st : Stmt} {f : Addr} {fd : FuncData} (N : List Str) (mN : Nat) {y : Str} {k : Nat} (cf : Cf) (g : M Fl) (hN : N.length = mN) (F : Fun K x qual st f fd) (S : FnScope N [y] (defScope st)) (hK : cf.K = K) (hk : cf.kd 0 = .Q)
    (hbody : ∀ (cdv : Value) (A : Around) (outer : List Env) (s : Shared) (H : Hp) (E : XK), Room k (A.deeper (envOfC qual (defScope st) s.heap.objs.size f cdv)) → SSs (cxOf CX0 P w K mg base N qual (defScope st) f cdv A outer s H E).nox cf W0 (defBody st) g) :
    FnOk P w K mg base CX0 (k + 1) f fd [y] (spLaw K (runF mN g)) := by
  subst hN
  refine F.ok S (fun vs H Q E h => h.1) (fun cdv A outer s H vs Q E hr h => ?_)
  obtain ⟨hl, a, ns, rfl, hS, ⟨io, h⟩, hq⟩ := h
  obtain ⟨t, p, sd⟩ := hbody cdv A outer s H E hr
  refine ⟨t, p, ?_⟩
  have r : Rel cf ⟨H, none⟩ H (envOf N.length [.lst (ns.map .int)]) (L2.start N [.ref a]) H (fun _ => []) [] :=
    { len := env_len rfl
      exs := Ex.refl _
      ex0 := fun a o h _ => h
      dom0 := fun a h => h
      slot := fun i d q => by
        have q := envOf_get q
        cases i with
        | zero =>
          have q : D.lst (ns.map .int) = d := by simpa using q
          subst q
          refine ⟨.ref a, start_get rfl, ?_⟩
          rw [hk, hK]
          exact .lst hS (rpl_ints ns)
        | succ i => simp at q
      nod := fun _ => List.nodup_nil
      dis := fun _ _ _ _ m => by cases m
      fdom := fun _ _ m => by cases m
      uns := fun _ _ m => by cases m
      new := fun _ _ m => by cases m
      volw := fun _ _ _ m => by cases m
      volb := fun _ _ _ m => by cases m
      wdom := fun _ m => by cases m
      ior := fun p h => by cases h }
  refine sd _ _ _ _ _ _ _ r _ ?_
  unfold runF at h
  cases q : g (envOf N.length [.lst (ns.map .int)]) with
  | stuck => rw [q] at h; cases h
  | ex c e => rw [q] at h; cases h
  | ok fl e =>
    rw [q] at h
    cases fl with
    | nx => cases h
    | rt d =>
      cases h
      exact fun v Hs' σ' H' F' wf' _ r' pv => by rw [pv.bl_inv]; exact hq H'
    | bk => cases h
    | ct => cases h
end
end MV
namespace MV
open PySem PySem.Spec PyProof.Rows L2
theorem aLen1 {fr : M (List D)} {m : Nat} (h : ∀ ds env env', fr env = .ok ds env' → ds.length = m) : ∀ ds env env', fr env = .ok ds env' → ds.length + 1 = m + 1 := fun ds e e2 q => congrArg (· + 1) (h ds e e2 q)
def WFUEL : Nat := 1000000
theorem own1 {cf : Cf} {x : Str} {j : Nat} (h : cf.kd j = .S) : ∀ i ∈ ([(x, j)] : List (Str × Nat)).map (·.2), cf.kd i = .S := fun i m => by
  rw [List.mem_singleton.mp m]; exact h
section
variable {X : Cx} {cf : Cf} {W : WX} {c ca cb : Cls} {n n1 n2 : Bool}
section
variable {a b d e : Expr} {ta tb td te : TT} {fa fb fd fe : M Bool} {pos : Pos}
theorem st_or2 (ha : ST X cf W a ta fa) (hb : ST X cf W b tb fb) : ST X cf W (.BoolOp .Or [a, b] pos) (tOr ta tb) (tOr2 fa fb) := SW.st (sw_or ha (sw_or1 hb))
theorem st_and2 (ha : ST X cf W a ta fa) (hb : ST X cf W b tb fb) : ST X cf W (.BoolOp .And [a, b] pos) (tAnd ta tb) (tAnd2 fa fb) := SW.st (sw_and ha (sw_and1 hb))
end
def sAug (g : Int → Int → Int) (i : Nat) (f : M D) : M Fl := fun e => match e[i]? with
  | some (some (.int x)) => bnd f (fun y => fun e => match y with
    | .int y => .ok .nx (e.set i (some (.int (g x y))))
    | _ => .stuck) e
  | _ => .stuck
theorem ss_aug {i : Nat} {x : Str} {op : Operator} {g : Int → Int → Int} {e : Expr} {te : TE} {f : M D} {pos' pos : Pos} (ho : PIp X op (ipI g)) (hk : cf.kd i = .S ∨ cf.kd i = .N) (h : SE X cf W c n e te f) (hN : X.N.Nodup) (hi : X.N[i]? = some x) (hx : Loc X.env.scope x)
    (hf : X.fn x = true ∨ X.env.scope.names.lookup x = some .local := by first | exact .inl rfl | exact .inr rfl | assumption) : SS X cf W (.AugAssign (.Name x pos') op e pos) (sAug g i f) := by
  refine ⟨_, ps_aug hN hi hx h.p ho hf, fun R Hs env σ H F wf r D hp => ?_⟩
  unfold sAug at hp
  split at hp
  · rename_i x0 q
    obtain ⟨v, h1, h2⟩ := r.slot i _ q
    have ev : v = .int x0 := by
      rcases hk with hk | hk
      · rw [hk] at h2; exact Rp.int_inv h2
      · rw [hk] at h2; exact Rp.int_inv h2
    refine ⟨v, h1, ?_⟩
    refine h.s.bind r hp fun d env1 w Hs1 H1 s1 r1 p1 _ hp => ?_
    cases d with
    | int y =>
      refine ⟨x0, y, ev, p1.int_inv, ?_⟩
      refine hp Hs1 _ H1 F wf s1.ex (r1.put (i := i) (v := .int (g x0 y)) (d := .int (g x0 y)) ?_ fun F' => ?_)
      · rcases hk with hk | hk <;> rw [hk] <;> exact fun z => by cases z
      · rcases hk with hk | hk <;> rw [hk] <;> exact .int _
    | _ => exact hp.elim
  · exact hp.elim
theorem ss_iadd {i : Nat} {x : Str} {e : Expr} {te : TE} {f : M D} {pos' pos : Pos} (hk : cf.kd i = .S ∨ cf.kd i = .N) (h : SE X cf W c n e te f) (hN : X.N.Nodup) (hi : X.N[i]? = some x) (hx : Loc X.env.scope x) (hf : X.fn x = true ∨ X.env.scope.names.lookup x = some .local := by first | exact .inl rfl | exact .inr rfl | assumption) :
    SS X cf W (.AugAssign (.Name x pos') .Add e pos) (sAug (fun i j => i + j) i f) := ss_aug ip_add hk h hN hi hx hf
def sUnp (f : M D) (tg : D → M Unit) : M Fl := bnd f fun d => bnd (tg d) fun _ => ret .nx
end
end MV
namespace MV
open PySem (Str)
abbrev dI (l : List Int) : D := .lst (l.map .int)
abbrev dT (l : List Str) : D := .lst (l.map .str)
def rb {α β : Type} (r : Res α) (k : α → PEnv → Res β) : Res β := match r with
  | .ok a e => k a e
  | .ex c e => .ex c e
  | .stuck => .stuck
section
variable {α β : Type} {m : M α} {k : α → M β} {e : PEnv} {f g fa fb fc : M D} {a b : M Fl} {t u : M Bool} {r : M (List D)}
@[simp] theorem rb_ok {a : α} {e : PEnv} {k : α → PEnv → Res β} : rb (.ok a e) k = k a e := (rfl)
@[simp] theorem rb_ex {c : Str} {e : PEnv} {k : α → PEnv → Res β} : rb (.ex c e) k = .ex c e := (rfl)
@[simp] theorem rb_stuck {k : α → PEnv → Res β} : rb .stuck k = .stuck := (rfl)
@[simp] theorem rb_ite {p : Prop} [Decidable p] {x y : Res α} {k : α → PEnv → Res β} : rb (if p then x else y) k = if p then rb x k else rb y k := by split <;> rfl
@[simp] theorem r_ret {x : α} : ret x e = .ok x e := (rfl)
@[simp] theorem r_bnd : bnd m k e = rb (m e) k := (rfl)
@[simp] theorem r_lift_some {x : α} : lift (some x) e = .ok x e := (rfl)
@[simp] theorem r_lift_none : lift (none : Option α) e = .stuck := (rfl)
@[simp] theorem r_lift_ite {p : Prop} [Decidable p] {x y : Option α} : lift (if p then x else y) e = if p then lift x e else lift y e := by split <;> rfl
@[simp] theorem r_fail : (fail : M α) e = .stuck := (rfl)
@[simp] theorem r_eC {d : D} : eC d e = .ok d e := (rfl)
def getE (o : Option (Option D)) (e : PEnv) : Res D := match o with
  | some (some d) => .ok d e
  | _ => .stuck
@[simp] theorem getE_some {d : D} : getE (some (some d)) e = .ok d e := (rfl)
@[simp] theorem r_eV {i : Nat} : eV i e = getE (e[i]?) e := (rfl)
@[simp] theorem r_e1 {h : D → Option D} : e1 h fa e = rb (fa e) fun x e => lift (h x) e := (rfl)
@[simp] theorem r_e2 {h : D → D → Option D} : e2 h fa fb e = rb (fa e) fun x e => rb (fb e) fun y e => lift (h x y) e := (rfl)
@[simp] theorem r_eN {h : List D → Option D} : eN h r e = rb (r e) fun x e => lift (h x) e := (rfl)
@[simp] theorem r_aNil : aNil e = .ok [] e := (rfl)
@[simp] theorem r_aCons : aCons fa r e = rb (fa e) fun x e => rb (r e) fun xs e => .ok (x :: xs) e := (rfl)
@[simp] theorem r_tB : tB fa e = rb (fa e) fun x e => lift (asB x) e := (rfl)
@[simp] theorem r_asB {b : Bool} : asB (.bl b) = some b := (rfl)
@[simp] theorem r_tAnd2 : tAnd2 t u e = rb (t e) fun x e => if x then u e else .ok false e := by
  show rb (t e) _ = _
  congr 1; funext x e; cases x <;> rfl
@[simp] theorem r_tOr2 : tOr2 t u e = rb (t e) fun x e => if x then .ok true e else u e := by
  show rb (t e) _ = _
  congr 1; funext x e; cases x <;> rfl
@[simp] theorem r_tNot1 : tNot1 t e = rb (t e) fun x e => .ok (!x) e := (rfl)
@[simp] theorem r_tTrue : tTrue e = .ok true e := (rfl)
@[simp] theorem r_eAndV : eAndV fa fb e = rb (fa e) fun x e => rb (lift (asB x) e) fun k e => if k then fb e else .ok (.bl false) e := by
  show rb (fa e) _ = _
  congr 1; funext x e
  show rb _ _ = _
  congr 1; funext k e; cases k <;> rfl
@[simp] theorem r_eOrV : eOrV fa fb e = rb (fa e) fun x e => rb (lift (asB x) e) fun k e => if k then .ok (.bl true) e else fb e := by
  show rb (fa e) _ = _
  congr 1; funext x e
  show rb _ _ = _
  congr 1; funext k e; cases k <;> rfl
@[simp] theorem r_eNotV : eNotV fa e = rb (fa e) fun x e => rb (lift (asB x) e) fun k e => .ok (.bl (!k)) e := (rfl)
@[simp] theorem r_eIfE : eIfE t fa fb e = rb (t e) fun k e => if k then fa e else fb e := by
  show rb (t e) _ = _
  congr 1; funext k e; cases k <;> rfl
@[simp] theorem r_eF : eF fa e = rb (fa e) fun d e => if d.flat then .ok d e else .stuck := by
  show rb (fa e) _ = _
  congr 1; funext d e; cases h : d.flat <;> simp [h]
@[simp] theorem r_eS : eS fa e = rb (fa e) fun d e => if d.sc then .ok d e else .stuck := by
  show rb (fa e) _ = _
  congr 1; funext d e; cases h : d.sc <;> simp [h]
@[simp] theorem r_sSkip : sSkip e = .ok .nx e := (rfl)
@[simp] theorem r_sBrk : sBrk e = .ok .bk e := (rfl)
@[simp] theorem r_sCont : sCont e = .ok .ct e := (rfl)
def sqK (b : M Fl) : Fl → PEnv → Res Fl
  | .nx, e => b e
  | .rt d, e => .ok (.rt d) e
  | .bk, e => .ok .bk e
  | .ct, e => .ok .ct e
@[simp] theorem sqK_nx : sqK b .nx e = b e := (rfl)
@[simp] theorem sqK_rt {d : D} : sqK b (.rt d) e = .ok (.rt d) e := (rfl)
@[simp] theorem sqK_bk : sqK b .bk e = .ok .bk e := (rfl)
@[simp] theorem sqK_ct : sqK b .ct e = .ok .ct e := (rfl)
@[simp] theorem r_sSeq : sSeq a b e = rb (a e) (sqK b) := by
  show rb (a e) _ = _
  congr 1; funext f e; cases f <;> rfl
@[simp] theorem r_sDrop : sDrop fa e = rb (fa e) fun _ e => .ok .nx e := (rfl)
@[simp] theorem r_sRet : sRet fa e = rb (fa e) fun d e => .ok (.rt d) e := (rfl)
@[simp] theorem r_sRetN : sRetN e = .ok (.rt .non) e := (rfl)
@[simp] theorem r_sIf : sIf t a b e = rb (t e) fun k e => if k then a e else b e := by
  show rb (t e) _ = _
  congr 1; funext k e; cases k <;> rfl
@[simp] theorem r_sSet {i : Nat} : sSet i fa e = rb (fa e) fun d e => .ok .nx (e.set i (some d)) := (rfl)
@[simp] theorem r_sSetM {i : Nat} : sSetM i fa e = rb (fa e) fun d e => if mok d then .ok .nx (e.set i (some d)) else .stuck := by
  show rb (fa e) _ = _
  congr 1; funext d e; cases h : mok d <;> simp [h]
@[simp] theorem r_sSetW {i : Nat} : sSetW i fa e = rb (fa e) fun d e => if wok d then .ok .nx (e.set i (some d)) else .stuck := by
  show rb (fa e) _ = _
  congr 1; funext d e; cases h : wok d <;> simp [h]
def lstO (o : Option (Option D)) : Option (List D) := match o with
  | some (some (.lst ds)) => some ds
  | _ => none
@[simp] theorem lstO_some {ds : List D} : lstO (some (some (.lst ds))) = some ds := (rfl)
@[simp] theorem r_lstAt {i : Nat} : lstAt i e = lstO (e[i]?) := (rfl)
def ro {α β : Type} (o : Option α) (k : α → Res β) : Res β := match o with
  | some a => k a
  | none => .stuck
@[simp] theorem ro_some {a : α} {k : α → Res β} : ro (some a) k = k a := (rfl)
@[simp] theorem ro_none {k : α → Res β} : ro none k = .stuck := (rfl)
@[simp] theorem r_sApp {i : Nat} : sApp i fa e = ro (lstO (e[i]?)) fun _ => rb (fa e) fun d e => ro (lstO (e[i]?)) fun ds => if ds.length < LIM then .ok .nx (e.set i (some (.lst (ds ++ [d])))) else .stuck := by
  unfold sApp
  show _ = ro (lstAt i e) _
  cases lstAt i e with
  | none => rfl
  | some ds =>
    show rb (fa e) _ = _
    simp only [ro_some]
    congr 1; funext d e
    show _ = ro (lstAt i e) _
    cases lstAt i e <;> rfl
def asInt : D → Option Int
  | .int i => some i
  | _ => none
@[simp] theorem asInt_int {i : Int} : asInt (.int i) = some i := (rfl)
@[simp] theorem r_sPut {i : Nat} : sPut i fa fb e = rb (fa e) fun d e => ro (lstO (e[i]?)) fun _ => rb (fb e) fun k e => ro (lstO (e[i]?)) fun ds => ro (asInt k) fun z => ro (L2.ixN ds.length z) fun j => .ok .nx (e.set i (some (.lst (ds.set j d)))) := by
  show rb (fa e) _ = _
  congr 1; funext d e
  show _ = ro (lstAt i e) _
  cases lstAt i e with
  | none => rfl
  | some ds =>
    show rb (fb e) _ = _
    simp only [ro_some]
    congr 1; funext k e
    show _ = ro (lstAt i e) _
    cases lstAt i e with
    | none => rfl
    | some ds =>
      simp only [ro_some]
      cases k <;> first | rfl | (simp only [asInt_int, ro_some]; cases L2.ixN ds.length _ <;> rfl)
@[simp] theorem r_sPutW {i : Nat} : sPutW i fa fb e = rb (fa e) fun d e => ro (lstO (e[i]?)) fun _ => rb (fb e) fun k e => ro (lstO (e[i]?)) fun ds => ro (asInt k) fun z => ro (L2.ixN ds.length z) fun j => if d.sc then .ok .nx (e.set i (some (.lst (ds.set j d)))) else .stuck := by
  show rb (fa e) _ = _
  congr 1; funext d e
  show _ = ro (lstAt i e) _
  cases lstAt i e with
  | none => rfl
  | some ds =>
    show rb (fb e) _ = _
    simp only [ro_some]
    congr 1; funext k e
    show _ = ro (lstAt i e) _
    cases lstAt i e with
    | none => rfl
    | some ds =>
      simp only [ro_some]
      cases k <;> first | rfl | (simp only [asInt_int, ro_some]; cases L2.ixN ds.length _ <;> rfl)
@[simp] theorem r_eIxW {i : Nat} : eIxW i fa e = ro (lstO (e[i]?)) fun _ => rb (fa e) fun k e => ro (lstO (e[i]?)) fun ds => ro (asInt k) fun z => ro (L2.atI ds z) fun d => .ok d e := by
  unfold eIxW
  show _ = ro (lstAt i e) _
  cases lstAt i e with
  | none => rfl
  | some ds =>
    show rb (fa e) _ = _
    simp only [ro_some]
    congr 1; funext k e
    show _ = ro (lstAt i e) _
    cases lstAt i e with
    | none => rfl
    | some ds =>
      simp only [ro_some]
      cases k <;> first | rfl | (simp only [asInt_int, ro_some]; cases L2.atI ds _ <;> rfl)
@[simp] theorem r_sAug {i : Nat} {h : Int → Int → Int} : sAug h i fa e = ro ((e[i]?).bind id |>.bind asInt) fun x => rb (fa e) fun y e => ro (asInt y) fun y => .ok .nx (e.set i (some (.int (h x y)))) := by
  unfold sAug
  cases q : e[i]? with
  | none => rfl
  | some o =>
    cases o with
    | none => rfl
    | some d =>
      cases d with
      | int x =>
        show rb (fa e) _ = rb (fa e) _
        congr 1; funext y e; cases y <;> rfl
      | _ => rfl
def frR {β : Type} (r : FR) (k : D → D → Res β) (kx : Str → D → Res β) : Res β := match r with
  | .ok d io => k d io
  | .ex x io => kx x io
  | .stuck => .stuck
@[simp] theorem frR_ok {d io : D} {k : D → D → Res β} {kx : Str → D → Res β} : frR (.ok d io) k kx = k d io := (rfl)
@[simp] theorem frR_ex {x : Str} {io : D} {k : D → D → Res β} {kx : Str → D → Res β} : frR (.ex x io) k kx = kx x io := (rfl)
@[simp] theorem r_eCall {F : List D → FR} : eCall F r e = rb (r e) fun ds e => frR (F ds) (fun d _ => .ok d e) fun x _ => .ex x e := (rfl)
@[simp] theorem r_eCallW {F : List D → FR} {i : Nat} : eCallW F i r e = ro (lstO (e[i]?)) fun _ => rb (r e) fun ds e => ro (lstO (e[i]?)) fun ds0 => frR (F (.lst ds0 :: ds)) (fun d io => if wok io then .ok d (e.set i (some io)) else .stuck) fun x io => if wok io then .ex x (e.set i (some io)) else .stuck := by
  unfold eCallW
  show _ = ro (lstAt i e) _
  cases lstAt i e with
  | none => rfl
  | some ds =>
    show rb (r e) _ = _
    simp only [ro_some]
    congr 1; funext ds e
    show _ = ro (lstAt i e) _
    cases lstAt i e with
    | none => rfl
    | some ds0 =>
      simp only [ro_some]
      show frW i (F _) e = _
      cases F (.lst ds0 :: ds) <;> rfl
@[simp] theorem r_oNone : oNone e = .ok none e := (rfl)
@[simp] theorem r_oSome : oSome fa e = rb (fa e) fun d e => ro (asInt d) fun i => .ok (some i) e := by
  show rb (fa e) _ = _
  congr 1; funext d e; cases d <;> rfl
@[simp] theorem r_eSl {lo hi : M (Option Int)} : eSl fa lo hi e = rb (fa e) fun x e => rb (lo e) fun l e => rb (hi e) fun h e => lift (gSl x l h) e := (rfl)
@[simp] theorem r_iL : iL fa e = rb (fa e) fun d e => lift (asL d) e := (rfl)
@[simp] theorem r_iLs : iLs fa e = rb (fa e) fun d e => lift (asLs d) e := (rfl)
@[simp] theorem r_asLs {ds : List D} : asLs (.lst ds) = if ds.all D.sc then some ds else none := (rfl)
@[simp] theorem r_iT : iT fa e = rb (fa e) fun d e => lift (asT d) e := (rfl)
@[simp] theorem r_iS : iS fa e = rb (fa e) fun d e => lift (asStr d) e := (rfl)
@[simp] theorem r_iN {h : List D → Option (List D)} : iN h r e = rb (r e) fun x e => lift (h x) e := (rfl)
@[simp] theorem r_asL {ds : List D} : asL (.lst ds) = some ds := (rfl)
@[simp] theorem r_asT {ds : List D} : asT (.tup ds) = some ds := (rfl)
@[simp] theorem r_asStr {z : Str} : asStr (.str z) = some (strD z) := (rfl)
@[simp] theorem r_sFor {fi : M (List D)} {tg : D → M Unit} : sFor fi tg b e = rb (fi e) fun ds e => sForL tg b ds e := (rfl)
@[simp] theorem r_tgN {i : Nat} {d : D} : tgN i d e = .ok () (e.set i (some d)) := (rfl)
@[simp] theorem r_tgT {is : List Nat} {ds : List D} : tgT is (.tup ds) e = ro (setAll is ds e) fun e' => .ok () e' := by
  show (match setAll is ds e with | some e' => Res.ok () e' | none => .stuck) = _
  cases setAll is ds e <;> rfl
@[simp] theorem r_setAll_nil : setAll [] [] e = some e := (rfl)
@[simp] theorem r_setAll_cons {i : Nat} {is : List Nat} {d : D} {ds : List D} : setAll (i :: is) (d :: ds) e = setAll is ds (e.set i (some d)) := (rfl)
def lcK (is : List Nat) (e : PEnv) (r : Res (List D)) : Res D := match r with
  | .ok acc e1 => .ok (.lst acc) (restE is e e1)
  | _ => .stuck
@[simp] theorem lcK_ok {is : List Nat} {acc : List D} {e e1 : PEnv} : lcK is e (.ok acc e1) = .ok (.lst acc) (restE is e e1) := (rfl)
@[simp] theorem r_eLc {is : List Nat} {fi : M (List D)} {tg : D → M Unit} : eLc is fi tg t fa e = rb (fi e) fun ds e => lcK is e (lcGo is tg t fa ds [] (wipeE is e)) := (rfl)
@[simp] theorem wipeE_nil : wipeE [] e = e := (rfl)
@[simp] theorem wipeE_cons {v : Nat} {vs : List Nat} : wipeE (v :: vs) e = (wipeE vs e).set v none := (rfl)
@[simp] theorem restE_nil {e1 : PEnv} : restE [] e e1 = e1 := (rfl)
@[simp] theorem restE_cons {v : Nat} {vs : List Nat} {e1 : PEnv} : restE (v :: vs) e e1 = (restE vs e e1).set v ((e[v]?).getD none) := (rfl)
def finF (r : Res Fl) : FR := match r with
  | .ok (.rt d) e => .ok d (ioOf e)
  | .ok .nx e => .ok .non (ioOf e)
  | .ex c e => .ex c (ioOf e)
  | _ => .stuck
theorem r_runF {n : Nat} {ds : List D} : runF n a ds = finF (a (envOf n ds)) := (rfl)
@[simp] theorem finF_rt {d : D} : finF (.ok (.rt d) e) = .ok d (ioOf e) := (rfl)
@[simp] theorem finF_nx : finF (.ok .nx e) = .ok .non (ioOf e) := (rfl)
@[simp] theorem finF_ex {c : Str} : finF (.ex c e) = .ex c (ioOf e) := (rfl)
@[simp] theorem finF_ite {p : Prop} [Decidable p] {x y : Res Fl} : finF (if p then x else y) = if p then finF x else finF y := by split <;> rfl
@[simp] theorem ioOf_some {d : D} {e : PEnv} : ioOf (some d :: e) = d := (rfl)
@[simp] theorem ioOf_nil : ioOf [] = .non := (rfl)
@[simp] theorem r_envOf {n : Nat} {ds : List D} : envOf n ds = ds.map some ++ List.replicate (n - ds.length) none := (rfl)
section
variable {i j : Int} {x y : Str} {l l2 ds ds2 : List D} {k : Bool}
@[simp] theorem gSub_i : gSub (.int i) (.int j) = some (.int (i - j)) := (rfl)
@[simp] theorem gAdd_i : gAdd (.int i) (.int j) = some (.int (i + j)) := (rfl)
@[simp] theorem gAdd_l : gAdd (.lst l) (.lst l2) = if l.length + l2.length ≤ LIM then some (.lst (l ++ l2)) else none := (rfl)
@[simp] theorem gAdd_s : gAdd (.str x) (.str y) = if x.length + y.length ≤ LIM then some (.str (x ++ y)) else none := (rfl)
@[simp] theorem gMul_i : gMul (.int i) (.int j) = if mulOk i j then some (.int (i * j)) else none := (rfl)
@[simp] theorem gMul_s : gMul (.str x) (.int i) = if x.length * i.toNat ≤ LIM ∧ -(2 ^ 63) ≤ i ∧ i < 2 ^ 31 then some (.str (repS x i.toNat)) else none := (rfl)
@[simp] theorem gFdiv_i : gFdiv (.int i) (.int j) = if L2.CDiv i j ∨ divW j = true then some (.int (i / j)) else none := (rfl)
@[simp] theorem gShr_i : gShr (.int i) (.int j) = if 0 ≤ j then some (.int (i / 2 ^ j.toNat)) else none := (rfl)
@[simp] theorem gShl_i : gShl (.int i) (.int j) = if L2.CPow i j then some (.int (i * 2 ^ j.toNat)) else none := (rfl)
@[simp] theorem gMod_i : gMod (.int i) (.int j) = if 0 < j then some (.int (i % j)) else none := (rfl)
@[simp] theorem gPow_i : gPow (.int i) (.int j) = if L2.CPow i j then some (.int (i ^ j.toNat)) else none := (rfl)
@[simp] theorem gLt_i : gLt (.int i) (.int j) = some (.bl (decide (i < j))) := (rfl)
@[simp] theorem gLe_i : gLe (.int i) (.int j) = some (.bl (decide (i ≤ j))) := (rfl)
@[simp] theorem gGt_i : gGt (.int i) (.int j) = some (.bl (decide (j < i))) := (rfl)
@[simp] theorem gGe_i : gGe (.int i) (.int j) = some (.bl (decide (j ≤ i))) := (rfl)
@[simp] theorem gNeg_i : gNeg (.int i) = some (.int (-i)) := (rfl)
@[simp] theorem gEq_i : gEq (.int i) (.int j) = some (.bl (decide (i = j))) := (rfl)
@[simp] theorem gNe_i : gNe (.int i) (.int j) = some (.bl (!decide (i = j))) := (rfl)
@[simp] theorem gEq_s : gEq (.str x) (.str y) = some (.bl (decide (x = y))) := (rfl)
@[simp] theorem gNe_s : gNe (.str x) (.str y) = some (.bl (!decide (x = y))) := (rfl)
@[simp] theorem gLst_ : gLst ds = if ds.length ≤ PySem.sizeLine then some (.lst ds) else none := (rfl)
@[simp] theorem gTupD_ : gTupD ds = if ds.length ≤ PySem.sizeLine then some (.tup ds) else none := (rfl)
@[simp] theorem gLen_l : gLen [.lst ds] = some (.int ds.length) := (rfl)
@[simp] theorem gLen_t : gLen [.tup ds] = some (.int ds.length) := (rfl)
@[simp] theorem gLen_s : gLen [.str x] = if x.length ≤ LIM then some (.int x.length) else none := (rfl)
@[simp] theorem gMax2_i : gMax2 [.int i, .int j] = some (.int (if j > i then j else i)) := (rfl)
@[simp] theorem gMin2_i : gMin2 [.int i, .int j] = some (.int (if j < i then j else i)) := (rfl)
@[simp] theorem gInt1_i : gInt1 [.int i] = some (.int i) := (rfl)
@[simp] theorem gInt1_b : gInt1 [.bl k] = some (.int (if k then 1 else 0)) := (rfl)
@[simp] theorem gList1_l : gList1 [.lst ds] = some (.lst ds) := (rfl)
@[simp] theorem gIx_l : gIx (.lst ds) (.int i) = L2.atI ds i := (rfl)
@[simp] theorem gIx_t : gIx (.tup ds) (.int i) = L2.atI ds i := (rfl)
@[simp] theorem gIx_s : gIx (.str x) (.int i) = if x.length ≤ LIM then (L2.atI x.cps.toList i).map fun c => .str ⟨#[c]⟩ else none := (rfl)
@[simp] theorem gSl_l {o o2 : Option Int} : gSl (.lst ds) o o2 = some (.lst (cutA ds o o2)) := (rfl)
@[simp] theorem gSl_s {o o2 : Option Int} : gSl (.str x) o o2 = if x.length ≤ LIM then some (.str (L2.cutS x o o2)) else none := (rfl)
@[simp] theorem gRev_l : gRev (.lst ds) = some (.lst ds.reverse) := (rfl)
@[simp] theorem gEn_l : gEn [.lst ds] = some (enumD ds) := (rfl)
@[simp] theorem gZp_l : gZp [.lst ds, .lst ds2] = some (zipD ds ds2) := (rfl)
@[simp] theorem gR1_i : gR1 [.int j] = if smallI j then some (rngD 0 j.toNat) else none := (rfl)
@[simp] theorem gR2_i : gR2 [.int i, .int j] = if smallI i && smallI j then some (rngD i (j - i).toNat) else none := (rfl)
@[simp] theorem sc_i : (D.int i).sc = true := (rfl)
@[simp] theorem sc_s : (D.str x).sc = true := (rfl)
@[simp] theorem sc_b : (D.bl k).sc = true := (rfl)
@[simp] theorem sc_n : D.non.sc = true := (rfl)
@[simp] theorem flat_i : (D.int i).flat = true := (rfl)
@[simp] theorem flat_s : (D.str x).flat = true := (rfl)
@[simp] theorem flat_b : (D.bl k).flat = true := (rfl)
@[simp] theorem flat_n : D.non.flat = true := (rfl)
@[simp] theorem flat_l : (D.lst ds).flat = ds.all D.sc := (rfl)
@[simp] theorem flat_t : (D.tup ds).flat = ds.all D.sc := (rfl)
@[simp] theorem wok_l : wok (.lst ds) = ds.all D.sc := (rfl)
@[simp] theorem mok_l : mok (.lst ds) = ds.all fun x => x.sc || match x with | .tup es => es.all D.sc | _ => false := (rfl)
theorem all_ints (l : List Int) : (l.map D.int).all D.sc = true := by simp [List.all_map]
theorem all_strs (l : List Str) : (l.map D.str).all D.sc = true := by simp [List.all_map]
@[simp] theorem mok_dI (l : List Int) : mok (dI l) = true := by simp [List.all_map]
@[simp] theorem mok_dT (l : List Str) : mok (dT l) = true := by simp [List.all_map]
@[simp] theorem flat_dI (l : List Int) : (dI l).flat = true := all_ints l
@[simp] theorem flat_dT (l : List Str) : (dT l).flat = true := all_strs l
@[simp] theorem wok_dI (l : List Int) : wok (dI l) = true := all_ints l
end
end
end MV
namespace MV
open PySem (Str PyData)
section
variable {tg : D → M Unit} {b : M Fl} {e : PEnv} {t : M Bool} {fe : M D} {is : List Nat}
theorem for_inv {ds : List D} (I : Nat → PEnv → Prop) (h0 : I 0 e) (hs : ∀ i d e, ds[i]? = some d → I i e → ∃ e1 e2 fl, tg d e = .ok () e1 ∧ b e1 = .ok fl e2 ∧ (fl = .nx ∨ fl = .ct) ∧ I (i + 1) e2) :
    ∃ e', sForL tg b ds e = .ok .nx e' ∧ I ds.length e' := by
  induction ds generalizing e I with
  | nil => exact ⟨e, rfl, h0⟩
  | cons d r ih =>
    obtain ⟨e1, e2, fl, h1, h2, h3, h4⟩ := hs 0 d e rfl h0
    obtain ⟨e', h5, h6⟩ := ih (e := e2) (fun i => I (i + 1)) h4 (fun i d e hd hi => hs (i + 1) d e (by simpa using hd) hi)
    refine ⟨e', ?_, by simpa using h6⟩
    rw [sForL, bnd_of_ok h1, bnd_of_ok h2]
    rcases h3 with rfl | rfl <;> exact h5
theorem while_inv (I : PEnv → Prop) (μ : PEnv → Nat) (Q : PEnv → Prop) (hs : ∀ e, I e → ∃ k e1, t e = .ok k e1 ∧ if k = true then ∃ fl e2, b e1 = .ok fl e2 ∧ (fl = .nx ∨ fl = .ct) ∧ I e2 ∧ μ e2 < μ e else Q e1) :
    ∀ (n : Nat) (e : PEnv), I e → μ e < n → ∃ e', sWhile t b n e = .ok .nx e' ∧ Q e' := by
  intro n
  induction n with
  | zero => intro e _ h; omega
  | succ n ih =>
    intro e hI hm
    obtain ⟨k, e1, h1, h2⟩ := hs e hI
    rw [sWhile, bnd_of_ok h1]
    cases k with
    | false => exact ⟨e1, rfl, h2⟩
    | true =>
      obtain ⟨fl, e2, h3, h4, h5, h6⟩ := h2
      obtain ⟨e', h7, h8⟩ := ih e2 h5 (by omega)
      refine ⟨e', ?_, h8⟩
      show bnd b (sAft (sWhile t b n)) e1 = _
      rw [bnd_of_ok h3]
      rcases h4 with rfl | rfl <;> exact h7
theorem lc_pure {α : Type} {φ : α → D} {p : α → Bool} {g : α → D} : ∀ (l : List α) (acc : List D), acc.length + l.length ≤ LIM →
    (∀ x ∈ l, ∃ e1 e2, tg (φ x) e = .ok () e1 ∧ t e1 = .ok (p x) e2 ∧ (p x = true → ∃ e3, fe e2 = .ok (g x) e3 ∧ wipeE is e3 = e) ∧ (p x = false → wipeE is e2 = e)) →
    lcGo is tg t fe (l.map φ) acc e = .ok (acc ++ (l.filter p).map g) e
  | [], acc, _, _ => by simp [lcGo]
  | x :: l, acc, hl, h => by
    obtain ⟨e1, e2, h1, h2, h3, h4⟩ := h x List.mem_cons_self
    rw [List.map_cons, lcGo, bnd_of_ok h1, bnd_of_ok h2]
    have ih := fun acc' hl' => lc_pure l acc' hl' fun y hy => h y (List.mem_cons_of_mem _ hy)
    rw [List.length_cons] at hl
    cases q : p x with
    | true =>
      obtain ⟨e3, h5, h6⟩ := h3 q
      show bnd fe _ e2 = _
      rw [bnd_of_ok h5, if_pos (by omega : acc.length < LIM)]
      show lcGo is tg t fe (l.map φ) (acc ++ [g x]) (wipeE is e3) = _
      rw [h6, ih (acc ++ [g x]) (by rw [List.length_append, List.length_singleton]; omega)]
      simp [List.filter_cons, q]
    | false =>
      show lcGo is tg t fe (l.map φ) acc (wipeE is e2) = _
      rw [h4 q, ih acc (by omega)]
      simp [List.filter_cons, q]
theorem lc_inv {ds : List D} (I : Nat → List D → PEnv → Prop) : ∀ (acc : List D) (e : PEnv), I 0 acc e → acc.length + ds.length ≤ LIM →
    (∀ i d acc e, ds[i]? = some d → I i acc e → ∃ e1 e2 k, tg d e = .ok () e1 ∧ t e1 = .ok k e2 ∧ (k = true → ∃ y e3, fe e2 = .ok y e3 ∧ I (i + 1) (acc ++ [y]) (wipeE is e3)) ∧ (k = false → I (i + 1) acc (wipeE is e2))) →
    ∃ a' e', lcGo is tg t fe ds acc e = .ok a' e' ∧ I ds.length a' e' := by
  induction ds generalizing I with
  | nil => intro acc e h0 _ _; exact ⟨acc, e, rfl, h0⟩
  | cons d r ih =>
    intro acc e h0 hl hs
    obtain ⟨e1, e2, k, h1, h2, h3, h4⟩ := hs 0 d acc e rfl h0
    rw [List.length_cons] at hl
    rw [lcGo, bnd_of_ok h1, bnd_of_ok h2]
    cases k with
    | true =>
      obtain ⟨y, e3, h5, h6⟩ := h3 rfl
      obtain ⟨a', e', h7, h8⟩ := ih (fun i => I (i + 1)) (acc ++ [y]) (wipeE is e3) h6 (by rw [List.length_append, List.length_singleton]; omega) (fun i d acc e hd hi => hs (i + 1) d acc e (by simpa using hd) hi)
      refine ⟨a', e', ?_, by simpa using h8⟩
      show bnd fe _ e2 = _
      rw [bnd_of_ok h5, if_pos (by omega : acc.length < LIM)]
      exact h7
    | false =>
      obtain ⟨a', e', h7, h8⟩ := ih (fun i => I (i + 1)) acc (wipeE is e2) (h4 rfl) (by omega) (fun i d acc e hd hi => hs (i + 1) d acc e (by simpa using hd) hi)
      exact ⟨a', e', h7, by simpa using h8⟩
end
section
variable {α β : Type}
theorem cutA_to (l : List α) (k : Nat) : cutA l none (some (k : Int)) = l.take k := by
  unfold cutA
  rw [HT.sIx_none, HT.sIx_nat, List.drop_zero, Nat.sub_zero]
  apply List.ext_getElem?
  intro i
  rw [List.getElem?_take, List.getElem?_take]
  by_cases h : i < k
  · by_cases h2 : i < l.length
    · rw [if_pos (by omega), if_pos h]
    · rw [List.getElem?_eq_none (by omega)]; simp
  · rw [if_neg (by omega), if_neg h]
theorem cutA_from (l : List α) (k : Nat) : cutA l (some (k : Int)) none = l.drop k := by
  unfold cutA
  rw [HT.sIx_none, HT.sIx_nat, List.take_of_length_le (by rw [List.length_drop]; omega)]
  apply List.ext_getElem?
  intro i
  rw [List.getElem?_drop, List.getElem?_drop]
  by_cases h2 : k ≤ l.length
  · rw [Nat.min_eq_left h2]
  · rw [List.getElem?_eq_none (by omega), List.getElem?_eq_none (by omega)]
theorem cutA_mid (l : List α) (i j : Nat) : cutA l (some (i : Int)) (some (j : Int)) = (l.drop i).take (j - i) := by
  unfold cutA
  rw [HT.sIx_nat, HT.sIx_nat]
  apply List.ext_getElem?
  intro m
  rw [List.getElem?_take, List.getElem?_take, List.getElem?_drop, List.getElem?_drop]
  by_cases h : i ≤ l.length
  · rw [Nat.min_eq_left h]
    by_cases h2 : i + m < l.length
    · by_cases h3 : m < j - i
      · rw [if_pos (by omega), if_pos h3]
      · rw [if_neg (by omega), if_neg h3]
    · rw [List.getElem?_eq_none (by omega)]; simp
  · rw [List.getElem?_eq_none (by omega), List.getElem?_eq_none (by omega)]; simp
theorem cutA_map (f : α → β) (l : List α) (lo hi : Option Int) : cutA (l.map f) lo hi = (cutA l lo hi).map f := by
  unfold cutA
  rw [List.length_map, List.map_take, List.map_drop]
theorem atI_map (f : α → β) (l : List α) (i : Int) : L2.atI (l.map f) i = (L2.atI l i).map f := by
  unfold L2.atI
  rw [List.length_map]
  cases L2.ixN l.length i with
  | none => rfl
  | some j => simp
theorem atI_eq (l : List α) (j : Nat) : L2.atI l (j : Int) = l[j]? := by
  cases h : l[j]? with
  | some v => exact L2.atI_nat h
  | none =>
    rw [List.getElem?_eq_none_iff] at h
    unfold L2.atI L2.ixN
    rw [if_pos (by omega), if_neg (by omega)]
    rfl
theorem atI_neg1 (l : List α) : L2.atI l (-1) = l.getLast? := by
  cases h : l with
  | nil => rfl
  | cons a r =>
    unfold L2.atI L2.ixN
    rw [if_neg (by decide), if_pos (by simp; omega)]
    rw [List.getLast?_eq_getElem?]
    show (a :: r)[(-1 + ((a :: r).length : Int)).toNat]? = _
    congr 1
    simp
    omega
theorem ixN_nat {n j : Nat} (h : j < n) : L2.ixN n (j : Int) = some j := by
  unfold L2.ixN
  rw [if_pos (by omega), if_pos (by omega)]
  simp
end
theorem toPs_map {α : Type} {f : α → D} {g : α → PyData} (h : ∀ x, (f x).toP = some (g x)) : ∀ l : List α, toPs (l.map f) = some (l.map g)
  | [] => by rw [List.map_nil, toPs]; rfl
  | x :: l => by rw [List.map_cons, toPs, h, toPs_map h l]; rfl
theorem toP_int (i : Int) : (D.int i).toP = some (.int i) := by rw [D.toP]
theorem toP_str (x : Str) : (D.str x).toP = some (.str x) := by rw [D.toP]
theorem toP_lst {ds : List D} {ps : List PyData} (h : toPs ds = some ps) : (D.lst ds).toP = some (.list ps) := by rw [D.toP, h]; rfl
theorem eqvAll_ints : ∀ a b : List Int, PyData.eqvAll (a.map .int) (b.map .int) = decide (a = b)
  | [], [] => by simp [PyData.eqvAll]
  | [], _ :: _ => by simp [PyData.eqvAll]
  | _ :: _, [] => by simp [PyData.eqvAll]
  | x :: a, y :: b => by
    rw [List.map_cons, List.map_cons, PyData.eqvAll, eqvAll_ints a b, PyData.eqv, Bool.eq_iff_iff]
    simp
theorem eqvAll_strs : ∀ a b : List Str, PyData.eqvAll (a.map .str) (b.map .str) = decide (a = b)
  | [], [] => by simp [PyData.eqvAll]
  | [], _ :: _ => by simp [PyData.eqvAll]
  | _ :: _, [] => by simp [PyData.eqvAll]
  | x :: a, y :: b => by
    rw [List.map_cons, List.map_cons, PyData.eqvAll, eqvAll_strs a b, PyData.eqv, Bool.eq_iff_iff]
    simp
theorem lay_ints : ∀ a : List Int, PyData.canLayAll0 (a.map .int) = true
  | [] => by simp [PyData.canLayAll0]
  | x :: a => by rw [List.map_cons, PyData.canLayAll0, PyData.canLay0, lay_ints a]; rfl
theorem depth_ints : ∀ a : List Int, PyData.depthAll (a.map .int) = 0
  | [] => by simp [PyData.depthAll]
  | x :: a => by rw [List.map_cons, PyData.depthAll, PyData.depth, depth_ints a]; rfl
def okS (x : Str) : Prop := PyData.strOk x = true
theorem lay_strs : ∀ a : List Str, (∀ x ∈ a, okS x) → PyData.canLayAll0 (a.map .str) = true
  | [], _ => by simp [PyData.canLayAll0]
  | x :: a, h => by rw [List.map_cons, PyData.canLayAll0, PyData.canLay0, lay_strs a fun y hy => h y (List.mem_cons_of_mem _ hy), h x List.mem_cons_self]; rfl
theorem depth_strs : ∀ a : List Str, PyData.depthAll (a.map .str) = 0
  | [] => by simp [PyData.depthAll]
  | x :: a => by rw [List.map_cons, PyData.depthAll, PyData.depth, depth_strs a]; rfl
theorem shaped_ints (a : List Int) : PySem.SeqAt.shaped (.list (a.map .int)) = true := by
  unfold PySem.SeqAt.shaped
  rw [PyData.canLay0, lay_ints, PyData.depth, depth_ints]; rfl
theorem shaped_strs {a : List Str} (h : ∀ x ∈ a, okS x) : PySem.SeqAt.shaped (.list (a.map .str)) = true := by
  unfold PySem.SeqAt.shaped
  rw [PyData.canLay0, lay_strs a h, PyData.depth, depth_strs]; rfl
theorem deq_dI (a b : List Int) : deq (dI a) (dI b) = some (decide (a = b)) := by
  have h1 : (dI a).toP = some (.list (a.map .int)) := toP_lst (toPs_map toP_int a)
  have h2 : (dI b).toP = some (.list (b.map .int)) := toP_lst (toPs_map toP_int b)
  show (match (dI a).toP, (dI b).toP with | some p, some q => if PySem.SeqAt.shaped p && PySem.SeqAt.shaped q then some (PyData.eqv p q) else none | _, _ => none) = _
  rw [h1, h2]
  simp only [shaped_ints, Bool.and_self, if_true]
  rw [PyData.eqv, eqvAll_ints]
theorem deq_dT {a b : List Str} (ha : ∀ x ∈ a, okS x) (hb : ∀ x ∈ b, okS x) : deq (dT a) (dT b) = some (decide (a = b)) := by
  have h1 : (dT a).toP = some (.list (a.map .str)) := toP_lst (toPs_map toP_str a)
  have h2 : (dT b).toP = some (.list (b.map .str)) := toP_lst (toPs_map toP_str b)
  show (match (dT a).toP, (dT b).toP with | some p, some q => if PySem.SeqAt.shaped p && PySem.SeqAt.shaped q then some (PyData.eqv p q) else none | _, _ => none) = _
  rw [h1, h2]
  simp only [shaped_strs ha, shaped_strs hb, Bool.and_self, if_true]
  rw [PyData.eqv, eqvAll_strs]
theorem gEq_dI (a b : List Int) : gEq (dI a) (dI b) = some (.bl (decide (a = b))) := by unfold gEq; rw [deq_dI]; rfl
theorem gNe_dI (a b : List Int) : gNe (dI a) (dI b) = some (.bl (!decide (a = b))) := by unfold gNe; rw [deq_dI]; rfl
theorem gEq_dT {a b : List Str} (ha : ∀ x ∈ a, okS x) (hb : ∀ x ∈ b, okS x) : gEq (dT a) (dT b) = some (.bl (decide (a = b))) := by unfold gEq; rw [deq_dT ha hb]; rfl
theorem gNe_dT {a b : List Str} (ha : ∀ x ∈ a, okS x) (hb : ∀ x ∈ b, okS x) : gNe (dT a) (dT b) = some (.bl (!decide (a = b))) := by unfold gNe; rw [deq_dT ha hb]; rfl
def Sg (s : Str) : Prop := ∃ c : Nat, s = ⟨#[c]⟩ ∧ 97 ≤ c ∧ c ≤ 122
theorem Sg.ok {s : Str} (h : Sg s) : okS s := by
  obtain ⟨c, rfl, _, h2⟩ := h
  unfold okS PyData.strOk
  simp
  omega
def Tx (t : List Str) : Prop := ∀ x ∈ t, Sg x
theorem Tx.ok {t : List Str} (h : Tx t) : ∀ x ∈ t, okS x := fun x hx => (h x hx).ok
theorem okNil : ∀ x ∈ ([] : List Str), okS x := fun _ h => by cases h
theorem Tx.take {t : List Str} (h : Tx t) (k : Nat) : Tx (t.take k) := fun x hx => h x (List.mem_of_mem_take hx)
theorem Tx.drop {t : List Str} (h : Tx t) (k : Nat) : Tx (t.drop k) := fun x hx => h x (List.mem_of_mem_drop hx)
theorem Tx.append {t u : List Str} (h : Tx t) (h2 : Tx u) : Tx (t ++ u) := fun x hx => (List.mem_append.mp hx).elim (h x) (h2 x)
theorem Tx.set {t : List Str} (h : Tx t) {x : Str} (hx : Sg x) (k : Nat) : Tx (t.set k x) := fun y hy => by
  rcases List.mem_or_eq_of_mem_set hy with hy | rfl
  · exact h y hy
  · exact hx
end MV
namespace MV
open PySem (Str PyData)
abbrev dN (l : List Nat) : D := .lst (l.map fun k : Nat => D.int (k : Int))
theorem dN_dI (l : List Nat) : dN l = dI (l.map fun k : Nat => (k : Int)) := by
  show D.lst _ = D.lst _
  rw [List.map_map]; rfl
theorem cast_inj {a b : List Nat} : (a.map (fun k : Nat => (k : Int)) = b.map fun k : Nat => (k : Int)) ↔ a = b :=
  ⟨fun h => (List.map_inj_right (fun x y h => by omega)).mp h, fun h => by rw [h]⟩
theorem gEq_dN (a b : List Nat) : gEq (dN a) (dN b) = some (.bl (decide (a = b))) := by
  rw [dN_dI, dN_dI, gEq_dI]; simp only [cast_inj]
theorem gNe_dN (a b : List Nat) : gNe (dN a) (dN b) = some (.bl (!decide (a = b))) := by
  rw [dN_dI, dN_dI, gNe_dI]; simp only [cast_inj]
theorem rng0 (n : Nat) : rngD 0 n = (List.range n).map fun k : Nat => D.int (k : Int) := by
  unfold rngD; simp
theorem rngN (m n : Nat) : rngD (m : Int) n = (List.range' m n).map fun k : Nat => D.int (k : Int) := by
  unfold rngD
  rw [List.range'_eq_map_range, List.map_map]
  apply List.map_congr_left
  intro k _
  simp
theorem rngN_get {m n i : Nat} {d : D} (h : (rngD (m : Int) n)[i]? = some d) : i < n ∧ d = .int ((m + i : Nat) : Int) := by
  rw [rngN] at h
  rw [List.getElem?_map] at h
  by_cases hi : i < n
  · rw [List.getElem?_range' hi] at h
    simp at h; exact ⟨hi, by rw [← h]; congr 1⟩
  · rw [List.getElem?_eq_none (by simp; omega)] at h; cases h
theorem rng0_get {n i : Nat} {d : D} (h : (rngD 0 n)[i]? = some d) : i < n ∧ d = .int (i : Int) := by
  have := rngN_get (m := 0) (n := n) (i := i) (d := d) (by simpa using h)
  simpa using this
theorem small_of {i : Int} (h : -1000000 ≤ i) (h2 : i ≤ 1000000) : smallI i = true := decide_eq_true (by omega)
theorem lc_nat {is : List Nat} {tg : D → M Unit} {t : M Bool} {fe : M D} {e : PEnv} (p : Nat → Bool) (g : Nat → D) (l : List Nat) (hl : l.length ≤ LIM)
    (h : ∀ k ∈ l, ∃ e1 e2, tg (.int (k : Int)) e = .ok () e1 ∧ t e1 = .ok (p k) e2 ∧ (p k = true → ∃ e3, fe e2 = .ok (g k) e3 ∧ wipeE is e3 = e) ∧ (p k = false → wipeE is e2 = e)) :
    lcGo is tg t fe (l.map fun k : Nat => D.int (k : Int)) [] e = .ok ((l.filter p).map g) e := by
  have := lc_pure (φ := fun k : Nat => D.int (k : Int)) (p := p) (g := g) l [] (by simpa using hl) h
  simpa using this
theorem asInts_dI (l : List Int) : asInts (l.map .int) = some l := by
  induction l with
  | nil => rfl
  | cons a r ih => rw [List.map_cons, asInts, ih]; rfl
theorem gSum_dI (l : List Int) : gSum [dI l] = some (.int l.sum) := by
  show (asInts (l.map .int)).map _ = _
  rw [asInts_dI]; rfl
section
variable {α : Type} {a b c d x : α} {l : List α}
@[simp] theorem atI0 : L2.atI (a :: l) 0 = some a := by rw [show (0 : Int) = ((0 : Nat) : Int) from rfl, atI_eq]; rfl
@[simp] theorem atI1 : L2.atI (a :: b :: l) 1 = some b := by rw [show (1 : Int) = ((1 : Nat) : Int) from rfl, atI_eq]; rfl
@[simp] theorem atI2 : L2.atI (a :: b :: c :: l) 2 = some c := by rw [show (2 : Int) = ((2 : Nat) : Int) from rfl, atI_eq]; rfl
@[simp] theorem atI3 : L2.atI (a :: b :: c :: d :: l) 3 = some d := by rw [show (3 : Int) = ((3 : Nat) : Int) from rfl, atI_eq]; rfl
@[simp] theorem atI4 : L2.atI (a :: b :: c :: d :: x :: l) 4 = some x := by rw [show (4 : Int) = ((4 : Nat) : Int) from rfl, atI_eq]; rfl
end
theorem cutA_to1 {α : Type} (l : List α) (k : Nat) : cutA l none (some ((k : Int) + 1)) = l.take (k + 1) := by
  rw [show ((k : Int) + 1) = ((k + 1 : Nat) : Int) by omega, cutA_to]
theorem cutA_mid2 {α : Type} (l : List α) (i j : Nat) : cutA l (some (i : Int)) (some ((i : Int) + (j : Int))) = (l.drop i).take j := by
  rw [show ((i : Int) + (j : Int)) = ((i + j : Nat) : Int) by omega, cutA_mid, show i + j - i = j by omega]
theorem gEq_nT {a : List Str} (ha : ∀ x ∈ a, okS x) : gEq (dT a) (.lst []) = some (.bl (decide (a = []))) := gEq_dT ha okNil
theorem gNe_nT {a : List Str} (ha : ∀ x ∈ a, okS x) : gNe (dT a) (.lst []) = some (.bl (!decide (a = []))) := gNe_dT ha okNil
theorem gEq_nN (a : List Nat) : gEq (dN a) (.lst []) = some (.bl (decide (a = []))) := gEq_dN a []
theorem gNe_nN (a : List Nat) : gNe (dN a) (.lst []) = some (.bl (!decide (a = []))) := gNe_dN a []
@[simp] theorem gEq_nn : gEq (.lst []) (.lst []) = some (.bl true) := gEq_dN [] []
@[simp] theorem gNe_nn : gNe (.lst []) (.lst []) = some (.bl false) := gNe_dN [] []
@[simp] theorem filter_no {α : Type} (l : List α) : l.filter (fun _ => false) = [] := by induction l <;> simp_all
@[simp] theorem r_eIsi {T : String} {f : M D} {e : PEnv} : eIsi T f e = rb (f e) fun x e => lift (gIsi T x) e := (rfl)
section
variable {ds : List D} {i : Int} {k : Bool} {x : Str}
@[simp] theorem isi_list {ds : List D} : gIsi "list" (.lst ds) = some (.bl true) := (rfl)
@[simp] theorem isi_int {i : Int} : gIsi "int" (.int i) = some (.bl true) := (rfl)
@[simp] theorem isi_boolI {i : Int} : gIsi "bool" (.int i) = some (.bl false) := (rfl)
@[simp] theorem isi_boolB {b : Bool} : gIsi "bool" (.bl b) = some (.bl true) := (rfl)
@[simp] theorem isi_tup {ds : List D} : gIsi "tuple" (.tup ds) = some (.bl true) := (rfl)
@[simp] theorem isi_str {x : Str} : gIsi "str" (.str x) = some (.bl true) := (rfl)
end
theorem hsz0 : (0 : Nat) ≤ PySem.sizeLine := Nat.zero_le _
@[simp] theorem r_eSlQ {i : Nat} {lo hi : M (Option Int)} {e : PEnv} : eSlQ i lo hi e = ro (lstO (e[i]?)) fun _ => rb (lo e) fun l e => rb (hi e) fun h e => ro (lstO (e[i]?)) fun ds => if ds.all D.sc then .ok (.lst (cutA ds l h)) e else .stuck := by
  unfold eSlQ
  show _ = ro (lstAt i e) _
  cases lstAt i e with
  | none => rfl
  | some ds =>
    show rb (lo e) _ = _
    simp only [ro_some]
    congr 1; funext l e
    show rb (hi e) _ = _
    congr 1; funext h e
    show _ = ro (lstAt i e) _
    cases lstAt i e with
    | none => rfl
    | some ds => rfl
theorem cells_get {ns : List Int} {lo hi : Option Int} {x : Int} {i : Nat} {d : D} (h : (D.int x :: (cutA ns lo hi).map D.int)[i]? = some d) : ∃ c, d = .int c := by
  cases i with
  | zero => exact ⟨x, (Option.some.inj h).symm⟩
  | succ i =>
    rw [List.getElem?_cons_succ, List.getElem?_map] at h
    cases q : (cutA ns lo hi)[i]? with
    | none => rw [q] at h; cases h
    | some c => rw [q] at h; exact ⟨c, (Option.some.inj h).symm⟩
theorem cutA_len {α : Type} (l : List α) (lo hi : Option Int) : (cutA l lo hi).length ≤ l.length := by
  unfold cutA; rw [List.length_take, List.length_drop]; omega
end MV
namespace MV
open PySem PySem.Spec PyProof.Rows L2
def tru : D → Option Bool
  | .non => some false
  | .bl b => some b
  | .int i => some (i != 0)
  | .lst ds => some (!ds.isEmpty)
  | .tup ds => some (!ds.isEmpty)
  | _ => none
theorem rpl_empty {K : PySem.W.Frag} {x : Bool} {G : Hp} {xs : List V} {ds : List D} (r : RpL K x G xs ds) : (!ds.isEmpty) = !xs.isEmpty := by cases r <;> rfl
theorem tru_rp {K : PySem.W.Frag} {G H : Hp} {v : V} {d : D} {k : Bool} (e : Ex G H) (h : Rp K true G v d) (q : tru d = some k) : TruV K v H k := by
  cases h with
  | sc z => cases d <;> cases z <;> cases q <;> rfl
  | lst s r => cases q; exact .inl ⟨_, ex_sql e s.any, rpl_empty r⟩
  | tup s r => cases q; exact .inr (.inl ⟨_, ex_sqt e s.any, rpl_empty r⟩)
  | dic => cases q
  | dit => cases q
  | exc => cases q
section
variable {X : Cx} {cf : Cf} {W : WX} {c : Cls} {n n1 n2 : Bool}
theorem SE.nn {e : Expr} {te : TE} {f : M D} (h : SE X cf W c n e te f) : SE X cf W c false e te f := ⟨h.p, fun R Hs env σ H F wf r Q => by
  have h := h.s R Hs env σ H F wf r Q
  cases q : f env with
  | ok d env' => rw [q] at h; exact fun k => h fun v Hs' H' s r' p nr => k v Hs' H' s r' p fun z => by cases z
  | ex x env' => rw [q] at h; exact h
  | stuck => trivial⟩
def tOrT (K : PySem.W.Frag) (ta tb : TE) : TE := fun σ H Q => ta σ H fun x H1 => ∃ k, TruV K x H1 k ∧ if k = true then Q x H1 else tb σ H1 Q
theorem pe_orT {a b : Expr} {rest : List Expr} {ta tb : TE} {pos : Pos} (ha : PE X a ta) (hb : PE X (.BoolOp .Or (b :: rest) pos) tb) : PE X (.BoolOp .Or (a :: b :: rest) pos) (tOrT X.K ta tb) := by
  refine ⟨fun pins s σ H Q I h => ?_⟩
  refine BoolOp_or (thn (ha.run pins s σ H _ I h) fun v s1 ⟨x, H1, I1, r1, q1⟩ => ?_)
  obtain ⟨k, e1, q1⟩ := q1
  refine thn (tru_ok pins s1 σ H1 x v (fun c H2 => c = k ∧ H2 = H1) I1 r1 ⟨k, e1, rfl, rfl⟩) fun c s2 ⟨H2, I2, q2⟩ => ?_
  obtain ⟨rfl, rfl⟩ := q2
  cases c with
  | false => exact hb.run pins s2 σ H2 Q I2 q1
  | true => exact ⟨x, H2, I2, r1, q1⟩
def eOrT (a b : M D) : M D := bnd a fun x => bnd (lift (tru x)) fun k => if k then ret x else b
theorem sd_orT {ta tb : TE} {fa fb : M D} (ha : Sd cf W c n ta fa) (hb : Sd cf W c n tb fb) : Sd cf W c n (tOrT cf.K ta tb) (eOrT fa fb) := by
  refine Sd.mk (fun R Hs env σ H F wf r d env' q Q k => ?_) (fun R Hs env σ H F wf r x env' q Q k => ?_)
  · obtain ⟨d1, env1, q1, q⟩ := bnd_ok q
    obtain ⟨b, env2, q2, q⟩ := bnd_ok q
    obtain ⟨qb, rfl⟩ := lift_ok q2
    refine ha.ok r q1 fun v Hs1 H1 s1 r1 p1 nr1 => ⟨b, tru_rp (rg_sub r1.exs) p1 qb, ?_⟩
    cases b with
    | false => exact hb.ok r1 q fun v2 Hs2 H2 s2 r2 p2 nr => k v2 Hs2 H2 (s1.trans s2) r2 (p2.mono (rg_start s1.dom)) fun z hf => (nr z hf).mono (rg_start (c := .V) (H0 := R.H0) (H := H2) (wf := wf) s1.dom)
    | true => cases q; exact k _ Hs1 H1 s1 r1 p1 nr1
  · rcases bnd_ex q with q | ⟨d1, env1, q1, q⟩
    · exact ha.exn r q k
    · rcases bnd_ex q with q | ⟨b, env2, q2, q⟩
      · exact (lift_ex q).elim
      · obtain ⟨qb, rfl⟩ := lift_ok q2
        refine ha.ok r q1 fun v Hs1 H1 s1 r1 p1 _ => ⟨b, tru_rp (rg_sub r1.exs) p1 qb, ?_⟩
        cases b with
        | false => exact hb.exn r1 q fun Hs2 H2 s2 r2 => k Hs2 H2 (s1.trans s2) r2
        | true => cases q
theorem se_orT {a b : Expr} {rest : List Expr} {ta tb : TE} {fa fb : M D} {pos : Pos} (hK : cf.K = X.K) (h : SE X cf W c n a ta fa) (h2 : SE X cf W c n (.BoolOp .Or (b :: rest) pos) tb fb) : SE X cf W c n (.BoolOp .Or (a :: b :: rest) pos) (tOrT cf.K ta tb) (eOrT fa fb) := ⟨hK ▸ pe_orT h.p h2.p, sd_orT h.s h2.s⟩
def tTr (f : M D) : M Bool := bnd f fun d => lift (tru d)
end
section
variable {e : PEnv} {fa fb : M D} {b : Bool} {i : Int} {ds : List D}
@[simp] theorem tru_b : tru (.bl b) = some b := (rfl)
@[simp] theorem tru_i : tru (.int i) = some (i != 0) := (rfl)
@[simp] theorem tru_l : tru (.lst ds) = some (!ds.isEmpty) := (rfl)
@[simp] theorem tru_t : tru (.tup ds) = some (!ds.isEmpty) := (rfl)
@[simp] theorem tru_n : tru .non = some false := (rfl)
@[simp] theorem r_tTr : tTr fa e = rb (fa e) fun x e => lift (tru x) e := (rfl)
@[simp] theorem r_eOrT : eOrT fa fb e = rb (fa e) fun x e => rb (lift (tru x) e) fun k e => if k then .ok x e else fb e := by
  show rb (fa e) _ = _
  congr 1; funext x e
  show rb _ _ = _
  congr 1; funext k e; cases k <;> rfl
end
theorem for_fold {σ α : Type} {tg : D → M Unit} {b : M Fl} {φ : α → D} (R : σ → PEnv → Prop) (f : σ → α → σ) : ∀ (l : List α) (s : σ) (e : PEnv), R s e →
    (∀ s x e, x ∈ l → R s e → ∃ e1 e2 fl, tg (φ x) e = .ok () e1 ∧ b e1 = .ok fl e2 ∧ (fl = .nx ∨ fl = .ct) ∧ R (f s x) e2) →
    ∃ e', sForL tg b (l.map φ) e = .ok .nx e' ∧ R (l.foldl f s) e'
  | [], s, e, h0, _ => ⟨e, rfl, h0⟩
  | x :: l, s, e, h0, hs => by
    obtain ⟨e1, e2, fl, h1, h2, h3, h4⟩ := hs s x e List.mem_cons_self h0
    obtain ⟨e', h5, h6⟩ := for_fold R f l (f s x) e2 h4 fun s y e hy => hs s y e (List.mem_cons_of_mem _ hy)
    refine ⟨e', ?_, h6⟩
    rw [List.map_cons, sForL, bnd_of_ok h1, bnd_of_ok h2]
    rcases h3 with rfl | rfl <;> exact h5
end MV
namespace MV
open PySem PySem.Spec PyProof.Rows L2
def gLR1 : D → Option D
  | .int j => if smallI j && decide (j.toNat ≤ LIM) then some (.lst (rngD 0 j.toNat)) else none
  | _ => none
def gLR2 : D → D → Option D
  | .int i, .int j => if smallI i && smallI j && decide ((j - i).toNat ≤ LIM) then some (.lst (rngD i (j - i).toNat)) else none
  | _, _ => none
theorem rpl_rng {K : PySem.W.Frag} {G : Hp} (i j : Int) : RpL K true G (rgV i j) (rngD i (j - i).toNat) := by
  unfold rgV rngD
  generalize List.range (j - i).toNat = l
  induction l with
  | nil => exact .nil
  | cons a r ih => exact .cons (.int _) ih
theorem rgOk_of {i j : Int} (h : smallI i = true) (h2 : smallI j = true) (h3 : (j - i).toNat ≤ LIM) : RgOk i j := by
  have h := of_decide_eq_true h
  have h2 := of_decide_eq_true h2
  exact ⟨h.1, h.2, h2.1, h2.2, Nat.le_trans h3 (by decide)⟩
def rLR1 : V → Hp → VK → Prop := fun x H Q => ∃ n, x = .int n ∧ RgOk 0 n ∧ ∀ q, H q = none → Q (.ref q) (upd H q (.lst (rgV 0 n)))
def rLR2 : R2 := fun x y H Q => ∃ i j, x = .int i ∧ y = .int j ∧ RgOk i j ∧ ∀ q, H q = none → Q (.ref q) (upd H q (.lst (rgV i j)))
theorem snd_LR1 {K : PySem.W.Frag} : Snd1 K true rLR1 gLR1 := fun G H x d1 d e h q Q k => by
  unfold gLR1 at q
  split at q
  · rename_i j
    split at q
    · rename_i hc
      cases q
      have hc := Bool.and_eq_true_iff.mp hc
      have hc2 := of_decide_eq_true hc.2
      have e1 : (j - 0).toNat = j.toNat := by rw [Int.sub_zero]
      exact ⟨j, h.int_inv, rgOk_of (by decide) hc.1 (by rw [e1]; exact hc2), fun p hp => k _ _ (Ex.new hp) (new_rp e hp (e1 ▸ rpl_rng 0 j)) (new_nn (G := G) hp (e1 ▸ rpl_rng 0 j))⟩
    · cases q
  · cases q
theorem snd_LR2 {K : PySem.W.Frag} : Snd2 K true rLR2 gLR2 := fun G H x y d1 d2 d e h h2 q Q k => by
  unfold gLR2 at q
  split at q
  · rename_i i j
    split at q
    · rename_i hc
      cases q
      have hc := Bool.and_eq_true_iff.mp hc
      have hc2 := of_decide_eq_true hc.2
      have hc1 := Bool.and_eq_true_iff.mp hc.1
      exact ⟨i, j, h.int_inv, h2.int_inv, rgOk_of hc1.1 hc1.2 hc2, fun p hp => k _ _ (Ex.new hp) (new_rp e hp (rpl_rng i j)) (new_nn (G := G) hp (rpl_rng i j))⟩
    · cases q
  · cases q
section
variable {X : Cx} {cf : Cf} {W : WX} {c : Cls} {n n1 n2 : Bool}
theorem se_lrg1 {a : Expr} {ta : TE} {fa : M D} {p p2 pos pos2 : Pos} (hc : X.calm = true) (hm : X.mg "list" = none) (hm2 : X.mg "range" = none) (ha : SE X cf W c n1 a ta fa) (hg : Gl X "list" := by rfl) (hg2 : Gl X "range" := by rfl)
    (na : starEach [.Call (.Name "range" p2) [a] [] pos2] X.env = (false, eval (.Call (.Name "range" p2) [a] [] pos2) X.env) :: starEach [] X.env := by rfl) (nb : starEach [a] X.env = (false, eval a X.env) :: starEach [] X.env := by rfl) :
    SE X cf W c true (.Call (.Name "list" p) [.Call (.Name "range" p2) [a] [] pos2] [] pos) (tUn rLR1 ta) (e1 gLR1 fa) := ⟨show PE X _ (tLstRg (tRg1 ta)) from pe_listRg hc hg hm (prg_1 hg2 hm2 ha.p nb) na, sd_op1 snd_LR1 ha.s⟩
theorem se_lrg2 {a b : Expr} {ta tb : TE} {fa fb : M D} {p p2 pos pos2 : Pos} (hc : X.calm = true) (hm : X.mg "list" = none) (hm2 : X.mg "range" = none) (ha : SE X cf W c n1 a ta fa) (hb : SE X cf W c n2 b tb fb) (hg : Gl X "list" := by rfl) (hg2 : Gl X "range" := by rfl)
    (na : starEach [.Call (.Name "range" p2) [a, b] [] pos2] X.env = (false, eval (.Call (.Name "range" p2) [a, b] [] pos2) X.env) :: starEach [] X.env := by rfl) (nb : starEach [a, b] X.env = (false, eval a X.env) :: starEach [b] X.env := by rfl) (nc : starEach [b] X.env = (false, eval b X.env) :: starEach [] X.env := by rfl) (hp : (backTo pos2 (starEach [b] X.env)).any (·.1) = false := by rfl) :
    SE X cf W c true (.Call (.Name "list" p) [.Call (.Name "range" p2) [a, b] [] pos2] [] pos) (tOp rLR2 ta tb) (e2 gLR2 fa fb) := ⟨show PE X _ (tLstRg (tRg2 ta tb)) from pe_listRg hc hg hm (prg_2 hg2 hm2 ha.p hb.p nb nc hp) na, sd_op2 snd_LR2 ha.s hb.s⟩
end
section
variable {i j : Int}
@[simp] theorem gLR1_i : gLR1 (.int j) = if smallI j && decide (j.toNat ≤ LIM) then some (.lst (rngD 0 j.toNat)) else none := (rfl)
@[simp] theorem gLR2_i : gLR2 (.int i) (.int j) = if smallI i && smallI j && decide ((j - i).toNat ≤ LIM) then some (.lst (rngD i (j - i).toNat)) else none := (rfl)
end
end MV
namespace MV
open PySem PySem.Spec PyProof.Rows L2
def SndM (K : PySem.W.Frag) (n : Bool) (T : String) (r : V → List V → Hp → VK → Prop) (g : D → List D → Option D) : Prop := ∀ (G H : Hp) (x : V) (xs : List V) (d1 : D) (ds : List D) (d : D), Ex G H → Rp K true G x d1 → RpL K true G xs ds → g d1 ds = some d → ∀ Q : VK, (∀ v H', Ex H H' → Rp K true (grow G H H') v d → Nn K n H H' v d → Q v H') → r x xs H Q
def tyD : D → String
  | .lst _ => "list"
  | .str _ => "str"
  | _ => ""
def eM (T : String) (g : D → List D → Option D) (fo : M D) (fa : M (List D)) : M D := bnd fo fun x => if tyD x == T then bnd fa fun xs => lift (g x xs) else fail
theorem tyD_ok {K : PySem.W.Frag} {G H : Hp} {x : V} {d : D} {T : String} (e : Ex G H) (h : Rp K true G x d) (q : (tyD d == T) = true) (hT : T = "list" ∨ T = "str") : tyV K T x H := by
  have q := beq_iff_eq.mp q
  subst q
  cases d with
  | lst ds =>
    obtain ⟨a, xs, rfl, s1, r1⟩ := h.lst_inv
    exact .inl ⟨rfl, xs, ex_sql e s1.any⟩
  | str z => rw [h.str_inv]; exact (rfl : "str" = "str")
  | _ =>
    rcases hT with h | h
    · exact absurd h (show ¬ (("" : String) = "list") by decide)
    · exact absurd h (show ¬ (("" : String) = "str") by decide)
section
variable {X : Cx} {cf : Cf} {W : WX} {c : Cls} {n n1 n2 : Bool}
theorem sd_bm {T : String} {r : V → List V → Hp → VK → Prop} {g : D → List D → Option D} {to : TE} {ta : TA} {fo : M D} {fa : M (List D)} (hT : T = "list" ∨ T = "str") (hs : SndM cf.K n T r g) (ho : Sd cf W c n1 to fo) (ha : SdA cf W c ta fa) : Sd cf W c n (tBM cf.K T r to ta) (eM T g fo fa) := by
  refine Sd.mk (fun R Hs env σ H F wf r d env' q Q k => ?_) (fun R Hs env σ H F wf r x env' q Q k => ?_)
  · obtain ⟨d1, env1, q1, q⟩ := bnd_ok q
    cases z : tyD d1 == T with
    | false => rw [z] at q; cases q
    | true =>
      rw [z] at q
      obtain ⟨d2, env2, q2, q⟩ := bnd_ok q
      obtain ⟨qg, rfl⟩ := lift_ok q
      exact ho.ok r q1 fun v Hs1 H1 s1 r1 p1 _ => ⟨tyD_ok (rg_sub r1.exs) p1 z hT, ha.ok r1 q2 fun v2 Hs2 H2 s2 r2 p2 =>
        hs (rg c R.H0 Hs2 H H2 wf) H2 v v2 d1 d2 d (rg_sub r2.exs) (p1.mono (rg_step s2)) (p2.mono (rg_start s1.dom)) qg Q fun v3 H3 x p nn => fin_op (s1.trans s2) r2 x p nn k⟩
  · rcases bnd_ex q with q | ⟨d1, env1, q1, q⟩
    · exact ho.exn r q k
    · cases z : tyD d1 == T with
      | false => rw [z] at q; cases q
      | true =>
        rw [z] at q
        rcases bnd_ex q with q | ⟨d2, env2, q2, q⟩
        · exact ho.ok r q1 fun v Hs1 H1 s1 r1 p1 _ => ⟨tyD_ok (rg_sub r1.exs) p1 z hT, ha.exn r1 q fun Hs2 H2 s2 r2 => k Hs2 H2 (s1.trans s2) r2⟩
        · exact (lift_ex q).elim
end
def eqD (z y : D) : Bool := match z.toV, y.toV with
  | some a, some b => eqV a b
  | _, _ => false
def gIndex : D → List D → Option D
  | .lst ds, [y] => if y.sc && ds.all D.sc then (ds.findIdx? fun z => eqD z y).map fun j => .int (j : Nat) else none
  | _, _ => none
theorem rpl_get {K : PySem.W.Frag} {x : Bool} {G : Hp} : ∀ {xs : List V} {ds : List D}, RpL K x G xs ds → ∀ (j : Nat), (∀ d, ds[j]? = some d → ∃ v, xs[j]? = some v ∧ Rp K x G v d) ∧ (∀ v, xs[j]? = some v → ∃ d, ds[j]? = some d ∧ Rp K x G v d)
  | _, _, .nil, j => ⟨fun d h => by simp at h, fun v h => by simp at h⟩
  | v :: xs, d :: ds, .cons h r, 0 => ⟨fun d' q => by cases Option.some.inj q; exact ⟨v, rfl, h⟩, fun v' q => by cases Option.some.inj q; exact ⟨d, rfl, h⟩⟩
  | v :: xs, d :: ds, .cons h r, j + 1 => by
    obtain ⟨a, b⟩ := rpl_get r j
    exact ⟨fun d' q => a d' q, fun v' q => b v' q⟩
theorem snd_index {K : PySem.W.Frag} : SndM K true "list" (rIndex K) gIndex := fun G H x xs d1 ds d e h1 h2 q Q k => by
  unfold gIndex at q
  split at q
  · rename_i ds y
    split at q
    · rename_i hs
      rw [Bool.and_eq_true] at hs
      cases z : ds.findIdx? (fun z => eqD z y) with
      | none => rw [z] at q; cases q
      | some j =>
        rw [z] at q
        cases q
        obtain ⟨v, rfl, hv⟩ := h2.one
        obtain ⟨a, ys, rfl, s1, r1⟩ := h1.lst_inv
        obtain ⟨hj, hp, hm⟩ := List.findIdx?_eq_some_iff_getElem.mp z
        have sc : ∀ (m : Nat) (d : D), ds[m]? = some d → d.sc = true := fun m d h => List.all_eq_true.mp hs.2 d (List.mem_of_getElem? h)
        obtain ⟨w, w1, w2⟩ := (rpl_get r1 j).1 ds[j] (List.getElem?_eq_getElem hj)
        have hy := hv.toV hs.1
        refine ⟨a, ys, v, j, w, rfl, rfl, ex_sql e s1.any, flatV_of hy, flatV_all r1 hs.2, w1, ?_, fun m z' hm' hz' => ?_, k_sc k rfl⟩
        · have hw := w2.toV (sc j _ (List.getElem?_eq_getElem hj))
          unfold eqD at hp
          rw [hw, hy] at hp
          exact hp
        · obtain ⟨dm, dm1, dm2⟩ := (rpl_get r1 m).2 z' hz'
          have hne := hm m hm'
          have hw := dm2.toV (sc m _ dm1)
          have e2 : ds[m]'(by omega) = dm := by
            have := List.getElem?_eq_getElem (l := ds) (i := m) (by omega)
            rw [this] at dm1; exact Option.some.inj dm1
          rw [e2] at hne
          unfold eqD at hne
          rw [hw, hy] at hne
          simpa using hne
    · cases q
  · cases q
theorem sc_index : ∀ x xs d, gIndex x xs = some d → d.sc = true := fun x xs d q => by
  unfold gIndex at q
  split at q
  · split at q
    · cases z : List.findIdx? (fun z => eqD z _) _ with
      | none => rw [z] at q; cases q
      | some j => rw [z] at q; cases q; rfl
    · cases q
  · cases q
theorem scM {T : String} {g : D → List D → Option D} {fo : M D} {fa : M (List D)} (h : ∀ x xs d, g x xs = some d → d.sc = true) : ScF (eM T g fo fa) := fun env d env' q => by
  obtain ⟨d1, env1, q1, q⟩ := bnd_ok q
  cases z : tyD d1 == T with
  | false => rw [z] at q; cases q
  | true =>
    rw [z] at q
    obtain ⟨d2, env2, q2, q⟩ := bnd_ok q
    obtain ⟨qg, _⟩ := lift_ok q
    exact h _ _ _ qg
section
variable {X : Cx} {cf : Cf} {W : WX} {c : Cls} {n n1 n2 : Bool}
theorem se_index {o e : Expr} {es : List Expr} {to : TE} {tA : TA} {fo : M D} {fA : M (List D)} {apos cpos : Pos} (hK : cf.K = X.K) (ho : SE X cf W c n1 o to fo) (ha : SA X cf W c (e :: es) tA fA)
    (hbase : attributeBase o "index" X.env (eval o X.env) = eval o X.env := by rfl)
    (hfew : ((backTo cpos (starEach (e :: es) X.env)).all (fun x => !x.1) && (backToKw cpos (keywordEach [] X.env)).all (fun x => x.1.isSome)
      && decide ((e :: es).length + ([] : List Keyword).length + (if ([] : List Keyword).isEmpty then 0 else 1) < 30)) = true := by rfl)
    (hline : (apos.endLine == cpos.line) = true := by rfl) (hs : starEach (e :: es) X.env = (false, eval e X.env) :: starEach es X.env := by rfl) (hplain : (backTo cpos (starEach es X.env)).any (·.1) = false := by rfl) :
    SE X cf W .V true (.Call (.Attribute o "index" apos) (e :: es) [] cpos) (tBM cf.K "list" (rIndex cf.K) to tA) (eM "list" gIndex fo fA) :=
  SE.low (c := c) (n := true) ⟨hK ▸ pe_bm PySem.F.plainAttrs_list PySem.F.slot_list_index PySem.F.type_list_index mt_index ho.p ha.p hbase hfew hline hs hplain, sd_bm (.inl rfl) snd_index ho.s ha.s⟩ (scM sc_index)
end
section
variable {e : PEnv} {fo : M D} {fa : M (List D)} {T : String} {g : D → List D → Option D} {ds : List D} {y : D}
@[simp] theorem r_eM : eM T g fo fa e = rb (fo e) fun x e => if tyD x == T then rb (fa e) fun xs e => lift (g x xs) e else .stuck := by
  show rb (fo e) _ = _
  congr 1; funext x e; cases tyD x == T <;> rfl
@[simp] theorem tyD_l : tyD (.lst ds) = "list" := (rfl)
@[simp] theorem gIndex_l : gIndex (.lst ds) [y] = if y.sc && ds.all D.sc then (ds.findIdx? fun z => eqD z y).map fun j => .int (j : Nat) else none := (rfl)
end
end MV
namespace MV
open PySem PySem.Spec PyProof.Rows L2
section
variable {K : PySem.W.Frag} {T H H' : Hp}
def NL (T : Hp) : Prop := ∀ a xs, T a ≠ some (.lst xs)
theorem nl_th {G : Hp} : NL (TH G) := fun a xs h => by obtain ⟨_, e, _⟩ := th_some h; cases e
theorem Own.emp_lst (hT : NL T) {F : List Addr} {v : V} {ds : List D} (h : Own K T H F v (.lst ds)) : ∃ p F' xs, v = .ref p ∧ F = p :: F' ∧ H p = some (.lst xs) ∧ OwnL K T H F' xs ds := by
  cases h with
  | leaf h => obtain ⟨a, xs, _, h, _⟩ := h.lst_inv; exact (hT a xs h).elim
  | lst h r => exact ⟨_, _, _, rfl, rfl, h, r⟩
theorem Own.emp_tup (hT : NL T) {F : List Addr} {v : V} {ds : List D} {j : Nat} {es : List D} (h : Own K T H F v (.tup ds)) (hj : ds[j]? = some (.lst es)) : ∃ p F' xs, v = .ref p ∧ F = p :: F' ∧ H p = some (.tup xs) ∧ OwnL K T H F' xs ds := by
  cases h with
  | leaf h =>
    obtain ⟨a, xs, _, h, r⟩ := h.tup_inv
    obtain ⟨v', _, h2⟩ := r.get hj
    obtain ⟨b, ys, _, h3, _⟩ := h2.lst_inv
    exact (hT b ys h3).elim
  | tup h r => exact ⟨_, _, _, rfl, rfl, h, r⟩
theorem Own.off {p : Addr} {o : HO} {F : List Addr} {v : V} {d : D} (h : Own K T H F v d) (hp : p ∉ F) : Own K T (upd H p o) F v d := h.keep (Ex.refl _) fun a m u e => by
  rw [upd_ne (fun z => hp (by rw [← z]; exact m))]; exact e
theorem OwnL.within (hT : NL T) : ∀ {F : List Addr} {xs : List V} {ds : List D}, OwnL K T H F xs ds → F.Nodup → ∀ (j : Nat) (es : List D), ds[j]? = some (.lst es) →
    ∃ q ys Fq, xs[j]? = some (.ref q) ∧ H q = some (.lst ys) ∧ q ∈ F ∧ OwnL K T H Fq ys es ∧ ∀ ys' es', (∀ H', (∀ a ∈ Fq, H' a = H a) → OwnL K T H' Fq ys' es') → OwnL K T (upd H q (.lst ys')) F xs (ds.set j (.lst es'))
  | _, _, _, .nil, _, j, es, h => by cases h
  | _, v :: vs, d :: ds, .cons (F := F1) (F' := F2) h r, nd, 0, es, hd => by
    cases Option.some.inj hd
    obtain ⟨q, Fq, ys, rfl, rfl, hq, ro⟩ := h.emp_lst hT
    have nd' := List.nodup_append.mp nd
    have nq : q ∉ Fq := (List.nodup_cons.mp nd'.1).1
    refine ⟨q, ys, Fq, rfl, hq, List.mem_append_left _ List.mem_cons_self, ro, fun ys' es' hn => ?_⟩
    exact .cons (.lst upd_same (hn _ fun a m => upd_ne (fun z => nq (by rw [← z]; exact m)))) (r.off fun m => nd'.2.2 q List.mem_cons_self q m rfl)
  | _, v :: vs, d :: ds, .cons (F := F1) (F' := F2) h r, nd, j + 1, es, hd => by
    have nd' := List.nodup_append.mp nd
    obtain ⟨q, ys, Fq, h1, h2, h3, h4, h5⟩ := OwnL.within hT r nd'.2.1 j es hd
    refine ⟨q, ys, Fq, h1, h2, List.mem_append_right _ h3, h4, fun ys' es' hn => ?_⟩
    exact .cons (h.off fun m => nd'.2.2 q m q h3 rfl) (h5 ys' es' hn)
end
section
variable {X : Cx} {cf : Cf} {W : WX} {c : Cls} {n n1 n2 : Bool}
theorem se_vP (i : Nat) {e : Expr} (p : PE X e (tVar i)) (hk : cf.kd i = .P) : SE X cf W .L false e (tVar i) (eV i) := ⟨p, sd_var fun R Hs env σ H F wf r v d h => by
  rw [hk] at h
  exact Own.rp (th_sub.trans r.nL) h (r.mL (by rw [hk]; exact fun z => by cases z))⟩
def linL : List D → Bool
  | [] => true
  | d :: ds => if d.sc then linL ds else (match d with | .lst es => es.all D.sc | _ => false) && ds.all D.sc
def lin : D → Bool
  | .lst ds => ds.all D.sc
  | .tup ds => linL ds
  | d => d.sc
def sSetP (i : Nat) (f : M D) : M Fl := bnd f fun d => bnd (lift (if lin d then some d else none)) fun d => fun e => .ok .nx (e.set i (some d))
def inner : D → D → Option (Nat × List D)
  | .tup ds, .int z => (ixN ds.length z).bind fun j => match ds[j]? with | some (.lst es) => some (j, es) | _ => none
  | .lst ds, .int z => (ixN ds.length z).bind fun j => match ds[j]? with | some (.lst es) => some (j, es) | _ => none
  | _, _ => none
def putIn : D → Nat → List D → D
  | .tup ds, j, es => .tup (ds.set j (.lst es))
  | .lst ds, j, es => .lst (ds.set j (.lst es))
  | d, _, _ => d
def sApp2 (i : Nat) (fi f : M D) : M Fl := fun e => match e[i]? with
  | some (some d0) => bnd fi (fun k => match inner d0 k with
    | none => fail
    | some (j, es) => bnd f fun x => fun e => if x.sc && decide (es.length < LIM) then .ok .nx (e.set i (some (putIn d0 j (es ++ [x])))) else .stuck) e
  | _ => .stuck
theorem own_inner {K : PySem.W.Frag} {T H : Hp} (hT : NL T) {F : List Addr} {v : V} {d0 k : D} {j : Nat} {es : List D} (h : Own K T H F v d0) (nd : F.Nodup) (q : inner d0 k = some (j, es)) :
    ∃ p z xs a ys Fa, v = .ref p ∧ k = .int z ∧ p ∈ F ∧ (H p = some (.tup xs) ∨ H p = some (.lst xs)) ∧ atI xs z = some (.ref a) ∧ xs[j]? = some (.ref a) ∧ H a = some (.lst ys) ∧ a ∈ F ∧ a ≠ p ∧ OwnL K T H Fa ys es ∧ ∀ ys' es', (∀ H', (∀ b ∈ Fa, H' b = H b) → OwnL K T H' Fa ys' es') → Own K T (upd H a (.lst ys')) F v (putIn d0 j es') := by
  unfold inner at q
  split at q
  · rename_i ds z
    cases qj : ixN ds.length z with
    | none => rw [qj] at q; cases q
    | some j' =>
      rw [qj] at q
      have q : (match ds[j']? with | some (.lst es) => some (j', es) | _ => none) = some (j, es) := q
      split at q
      · rename_i es' hd
        cases q
        obtain ⟨p, F', xs, rfl, rfl, hp, ro⟩ := h.emp_tup hT hd
        have nd' := List.nodup_cons.mp nd
        obtain ⟨a, ys, Fa, h1, h2, h3, h4, h5⟩ := ro.within hT nd'.2 j es hd
        have hne : a ≠ p := fun e => nd'.1 (by rw [← e]; exact h3)
        have ha : atI xs z = some (.ref a) := by
          unfold atI; rw [ro.length, qj]; exact h1
        exact ⟨p, z, xs, a, ys, Fa, rfl, rfl, List.mem_cons_self, .inl hp, ha, h1, h2, List.mem_cons_of_mem _ h3, hne, h4, fun ys' es' hn => .tup (by rw [upd_ne (Ne.symm hne)]; exact hp) (h5 ys' es' hn)⟩
      · cases q
  · rename_i ds z
    cases qj : ixN ds.length z with
    | none => rw [qj] at q; cases q
    | some j' =>
      rw [qj] at q
      have q : (match ds[j']? with | some (.lst es) => some (j', es) | _ => none) = some (j, es) := q
      split at q
      · rename_i es' hd
        cases q
        obtain ⟨p, F', xs, rfl, rfl, hp, ro⟩ := h.emp_lst hT
        have nd' := List.nodup_cons.mp nd
        obtain ⟨a, ys, Fa, h1, h2, h3, h4, h5⟩ := ro.within hT nd'.2 j es hd
        have hne : a ≠ p := fun e => nd'.1 (by rw [← e]; exact h3)
        have ha : atI xs z = some (.ref a) := by
          unfold atI; rw [ro.length, qj]; exact h1
        exact ⟨p, z, xs, a, ys, Fa, rfl, rfl, List.mem_cons_self, .inr hp, ha, h1, h2, List.mem_cons_of_mem _ h3, hne, h4, fun ys' es' hn => .lst (by rw [upd_ne (Ne.symm hne)]; exact hp) (h5 ys' es' hn)⟩
      · cases q
  · cases q
theorem ss_app2 {i : Nat} {o ix e : Expr} {ti te : TE} {fi f : M D} {spos apos cpos pos : Pos} (hK : cf.K = X.K) (po : PE X o (tVar i)) (hk : cf.kd i = .P) (hi : SE X cf W c n1 ix ti fi) (h : SE X cf W c n e te f) (hpi : PlainIx ix)
    (hbase : attributeBase (.Subscript o ix spos) "append" X.env (eval (.Subscript o ix spos) X.env) = eval (.Subscript o ix spos) X.env := by rfl)
    (hfew : ((backTo cpos (starEach [e] X.env)).all (fun x => !x.1) && (backToKw cpos (keywordEach [] X.env)).all (fun x => x.1.isSome) && decide ([e].length + ([] : List Keyword).length + (if ([] : List Keyword).isEmpty then 0 else 1) < 30)) = true := by rfl)
    (hline : (apos.endLine == cpos.line) = true := by rfl) (hs : starEach [e] X.env = (false, eval e X.env) :: starEach [] X.env := by rfl) (hplain : (backTo cpos (starEach [] X.env)).any (·.1) = false := by rfl)
    (hsw : swapsWith (.Call (.Attribute (.Subscript o ix spos) "append" apos) [e] [] cpos) none pos.line X.env = pure false := by rfl) :
    SS X cf W (.Expr (.Call (.Attribute (.Subscript o ix spos) "append" apos) [e] [] cpos) pos) (sApp2 i fi f) := by
  refine ⟨_, ps_expr (pe_bm PySem.F.plainAttrs_list PySem.F.slot_list_append PySem.F.type_list_append mt_append (pe_ix ix_seq po hi.p hpi) (pa_cons h.p pa_nil hs) hbase hfew hline hs hplain) hsw, fun R Hs env σ H F wf r D hp => ?_⟩
  unfold sApp2 at hp
  have hnw : cf.kd i ≠ .W := by rw [hk]; exact fun z => by cases z
  cases q0 : env[i]? with
  | none => simp only [q0] at hp; exact hp.elim
  | some od =>
    cases od with
    | none => simp only [q0] at hp; exact hp.elim
    | some d0 =>
      simp only [q0] at hp
      obtain ⟨v, hv, hsl⟩ := r.slot i d0 q0
      refine ⟨v, hv, ?_⟩
      refine hi.s.bind r hp fun k env1 vk Hs1 H1 s1 r1 p1 _ hp => ?_
      cases qi : inner d0 k with
      | none => simp only [qi] at hp; exact hp.elim
      | some je =>
        obtain ⟨j, es⟩ := je
        simp only [qi] at hp
        have e1 : env1[i]? = some (some d0) := by rw [s1.kp i hnw]; exact q0
        obtain ⟨v1, hv1, hsl1⟩ := r1.slot i d0 e1
        have ev : v1 = v := by rw [hv1] at hv; cases hv; rfl
        subst ev
        rw [hk] at hsl1
        obtain ⟨p, z, xs, a, ys, Fa, rfl, rfl, hpF, hpt, hat, hxj, hya, haF, hne, hFa, hup⟩ := own_inner nl_th hsl1 (r1.nod i) qi
        have rest : tyV X.K "list" (.ref a) H1 ∧ tCons te tNil σ H1 fun vs H2 => rAppend (.ref a) vs H2 fun _ H3 => D.nx σ H3 := by
          refine ⟨.inl ⟨rfl, ys, .inl (.inl hya)⟩, ?_⟩
          refine h.s.bind r1 (Post.mono s1.ex hp) fun x env2 vx Hs2 H2 s2 r2 p2 _ hp => ?_
          split at hp
          · rename_i hc
            rw [Bool.and_eq_true] at hc
            have e2 : env2[i]? = some (some d0) := by rw [s2.kp i hnw]; exact e1
            obtain ⟨v2, hv2, hsl2⟩ := r2.slot i d0 e2
            have ev : v2 = .ref p := by rw [hv2] at hv1; cases hv1; rfl
            subst ev
            rw [hk] at hsl2
            obtain ⟨p', z', xs2, a2, ys2, Fa2, ep, ez, hpF2, hpt2, hat2, hxj2, hya2, haF2, hne2, hFa2, hup2⟩ := own_inner nl_th hsl2 (r2.nod i) qi
            cases ep
            have exs : xs2 = xs := by
              have hpw := r1.volb i hnw p hpF
              rcases hpt with hpt | hpt
              · have := s2.keep p _ hpw hpt
                rcases hpt2 with h' | h' <;> rw [this] at h' <;> cases h' <;> rfl
              · have := s2.keep p _ hpw hpt
                rcases hpt2 with h' | h' <;> rw [this] at h' <;> cases h' <;> rfl
            subst exs
            have ea : a2 = a := by rw [hxj] at hxj2; cases hxj2; rfl
            subst ea
            have hxe := p2.sc_any hc.1 true (TH (rs Hs2 R.H0))
            refine ⟨a2, ys2, vx, rfl, rfl, hya2, by rw [hFa2.length]; exact lim_lt (of_decide_eq_true hc.2), ?_⟩
            exact hp Hs2 σ _ F wf s2.ex (r2.mut (i := i) (p := a2) (v := .ref p) (d0 := d0) haF2 e2 hv2 (by
              rw [hk]
              exact hup2 _ _ fun H' hH' => OwnL.app (hFa2.keep (Ex.refl _) fun b m o hb => by rw [hH' b m]; exact hb) (.cons hxe .nil)))
          · exact hp.elim
        rcases hpt with hpt | hpt
        · exact .inr (.inl ⟨p, xs, z, .ref a, rfl, p1.int_inv, .inl (.inl hpt), hat, rest⟩)
        · exact .inl ⟨p, xs, z, .ref a, rfl, p1.int_inv, .inl (.inl hpt), hat, rest⟩
end
section
variable {e : PEnv} {fi f : M D} {i : Nat} {ds es : List D}
@[simp] theorem r_sSetP : sSetP i f e = rb (f e) fun d e => if lin d then .ok .nx (e.set i (some d)) else .stuck := by
  show rb (f e) _ = _
  congr 1; funext d e; cases h : lin d <;> simp [h]
end
end MV
namespace MV
open PySem PySem.Spec PyProof.Rows L2
def eCallQ (F : List D → FR) (i : Nat) (a : M (List D)) : M D := fun e => match e[i]? with
  | some (some d0) => bnd a (fun ds => frD (F (d0 :: ds))) e
  | _ => .stuck
def eIxQ (i : Nat) (f : M D) : M D := fun e => match lstAt i e with
  | none => .stuck
  | some ds => bnd f (fun k => match k with
    | .int z => lift ((atI ds z).bind fun d => if d.sc then some d else none)
    | _ => fail) e
def eLenQ (i : Nat) : M D := fun e => match lstAt i e with
  | some ds => .ok (.int ds.length) e
  | none => .stuck
section
variable {X : Cx} {cf : Cf} {W : WX} {c : Cls} {n n1 n2 : Bool}
end
section
variable {P : Program} {w : World} {K : PySem.W.Frag} {mg : Str → Option Value} {base : Heap}
end
section
variable {e : PEnv} {f : M D} {i : Nat} {r : M (List D)}
def someO (o : Option (Option D)) : Option D := match o with
  | some (some d) => some d
  | _ => none
@[simp] theorem someO_some {d : D} : someO (some (some d)) = some d := (rfl)
@[simp] theorem r_eCallQ {F : List D → FR} : eCallQ F i r e = ro (someO (e[i]?)) fun d0 => rb (r e) fun ds e => frR (F (d0 :: ds)) (fun d _ => .ok d e) fun x _ => .ex x e := by
  unfold eCallQ someO
  cases e[i]? with
  | none => rfl
  | some o => cases o <;> rfl
@[simp] theorem r_eIxQ : eIxQ i f e = ro (lstO (e[i]?)) fun ds => rb (f e) fun k e => ro (asInt k) fun z => ro (L2.atI ds z) fun d => if d.sc then .ok d e else .stuck := by
  unfold eIxQ
  show _ = ro (lstAt i e) _
  cases lstAt i e with
  | none => rfl
  | some ds =>
    show rb (f e) _ = _
    simp only [ro_some]
    congr 1; funext k e
    cases k <;> first | rfl | (simp only [asInt_int, ro_some]; cases h : L2.atI ds _ with | none => rfl | some d => cases h2 : d.sc <;> simp [h2])
@[simp] theorem r_eLenQ : eLenQ i e = ro (lstO (e[i]?)) fun ds => .ok (.int ds.length) e := by
  unfold eLenQ
  show _ = ro (lstAt i e) _
  cases lstAt i e <;> rfl
end
end MV
namespace MV
open PySem PySem.Spec PyProof.Rows L2
section
variable {X : Cx} {pp : List (Addr × Obj)} {σ : L2.St} {H : Hp} {s : Shared}
end
section
variable {X : Cx} {x n : Str} {c : Value} {i : Nat} {body suite : List Stmt} {b₀ : Stmt} {np pos pos' : Pos} {tb : WX → TS} {ts : Addr → Value → TS} {Wo : WX}
end
abbrev veMro : List Value := [.type "ValueError", .type "Exception", .type "BaseException", .type "object"]
structure XCls (K : PySem.W.Frag) (mg : Str → Option Value) (c : Str) (C : Addr) : Prop where
  n : PySem.W.nsIn K mainGlobals c = some (some (.ref C))
  g : mg c = some (.ref C)
  x : PySem.W.excIn K C veMro "ValueError.__new__" = true
  k : PySem.W.keepIn K (.ref C) = true
  b : PySem.W.subIn K (.ref C) (.type "BaseException") = some true
  t : PySem.W.typeIn K (.ref C) = some (.type "type")
  d : PySem.W.hasDictIn K C = true
  s : PySem.W.subIn K (.ref C) (.ref C) = some true
theorem XCls.cv {K : PySem.W.Frag} {mg : Str → Option Value} {c : Str} {C : Addr} (h : XCls K mg c C) : cvK K c = .ref C := by unfold cvK; rw [h.n]
def sRaise (c : Str) : M Fl := fun e => .ex c e
section
variable {X : Cx} {cf : Cf} {W : WX}
theorem ss_raise {x m : Str} {C : Addr} {j : Nat} {p p2 pos pos' : Pos} (hK : cf.K = X.K) (hcv : cf.cv = cvK cf.K) (hc : X.calm = true) (tk : L2N.Takes X W) (T : XCls X.K X.mg x C) (hg : Gl X x := by rfl) (hdb : (x == ("__debug__" : Str)) = false := by decide) :
    SS X cf W (.Raise (some (.Call (.Name x p) [.Constant (.str m) j p2] [] pos')) none pos) (sRaise x) :=
  ⟨_, L2N.ps_raise hc tk (L2N.pmk_own PySem.F.excBase_ValueError T.x T.g T.k (raises_own T.b T.t) hg hdb), fun R Hs env σ H F wf r D hp => by
    have := hp Hs σ H F wf (Ex.refl _) r
    rw [hcv, hK, T.cv] at this
    exact this⟩
def sTryK (cs : List Str) (i j : Nat) (b : M Fl) : M Fl := fun e => match b e with
  | .ex c e' => if c ∈ cs ∧ j < e'.length then .ok .nx ((e'.set i (some (.exc c))).set j none) else .stuck
  | r => r
end
end MV
namespace MV
open PySem PySem.Spec PyProof.Rows L2
def excSub (c T : Str) : Bool := c == T || T == (Str.ofString "CoverError") || T == (Str.ofString "ValueError")
def gIsX (cs : List Str) (T : Str) : D → Option D
  | .exc c => if c ∈ cs then some (.bl (excSub c T)) else none
  | _ => none
def gIsXT (cs Ts : List Str) : D → Option D
  | .exc c => if c ∈ cs then some (.bl (Ts.any (excSub c))) else none
  | _ => none
section
variable {X : Cx} {cf : Cf} {W : WX} {c ca : Cls} {n n1 : Bool} {a : Expr} {ta : TE} {fa : M D} {pos : Pos}
end
section
variable {e : PEnv} {b : M Fl} {f : M D} {i j : Nat} {cs Ts : List Str} {c T : Str}
@[simp] theorem r_sRaise : sRaise c e = .ex c e := (rfl)
def tryR (cs : List Str) (i j : Nat) (r : Res Fl) : Res Fl := match r with
  | .ex c e' => if c ∈ cs ∧ j < e'.length then .ok .nx ((e'.set i (some (.exc c))).set j none) else .stuck
  | r => r
@[simp] theorem tryR_ok {f : Fl} : tryR cs i j (.ok f e) = .ok f e := (rfl)
@[simp] theorem tryR_ex : tryR cs i j (.ex c e) = if c ∈ cs ∧ j < e.length then .ok .nx ((e.set i (some (.exc c))).set j none) else .stuck := (rfl)
@[simp] theorem r_sTryK : sTryK cs i j b e = tryR cs i j (b e) := (rfl)
@[simp] theorem gIsX_x : gIsX cs T (.exc c) = if c ∈ cs then some (.bl (excSub c T)) else none := (rfl)
@[simp] theorem gIsXT_x : gIsXT cs Ts (.exc c) = if c ∈ cs then some (.bl (Ts.any (excSub c))) else none := (rfl)
end
end MV
namespace MV
open PySem PySem.Spec PyProof.Rows L2
def gCount : D → List D → Option D
  | .lst ds, [y] => if y.sc && ds.all D.sc then some (.int (ds.countP fun z => eqD z y : Nat)) else none
  | _, _ => none
def gAny : List D → Option D
  | [.lst ds] => if ds.all fun x => (asB x).isSome then some (.bl (ds.any fun x => asB x == some true)) else none
  | _ => none
def gIsiT (Ts : List String) (d : D) : Option D := match d.ty with
  | some a => some (.bl (Ts.any (isiB a)))
  | none => none
section
variable {X : Cx} {cf : Cf} {W : WX} {c ca : Cls} {n n1 n2 : Bool}
end
section
variable {e : PEnv} {f : M D} {r : M (List D)} {tg : D → M Unit} {i j : Nat}
@[simp] theorem r_sUnp : sUnp f tg e = rb (f e) fun d e => rb (tg d e) fun _ e => .ok .nx e := (rfl)
end
section
variable {ds : List D} {y : D} {Ts : List String} {i : Int} {x : Str} {b : Bool}
@[simp] theorem gCount_l : gCount (.lst ds) [y] = if y.sc && ds.all D.sc then some (.int (ds.countP fun z => eqD z y : Nat)) else none := (rfl)
@[simp] theorem gAny_l : gAny [.lst ds] = if ds.all fun x => (asB x).isSome then some (.bl (ds.any fun x => asB x == some true)) else none := (rfl)
@[simp] theorem gIsiT_i : gIsiT Ts (.int i) = some (.bl (Ts.any (isiB "int"))) := (rfl)
@[simp] theorem gIsiT_s : gIsiT Ts (.str x) = some (.bl (Ts.any (isiB "str"))) := (rfl)
@[simp] theorem gIsiT_b : gIsiT Ts (.bl b) = some (.bl (Ts.any (isiB "bool"))) := (rfl)
@[simp] theorem gIsiT_l : gIsiT Ts (.lst ds) = some (.bl (Ts.any (isiB "list"))) := (rfl)
@[simp] theorem gIsiT_t : gIsiT Ts (.tup ds) = some (.bl (Ts.any (isiB "tuple"))) := (rfl)
@[simp] theorem gIsiT_n : gIsiT Ts .non = some (.bl (Ts.any (isiB "NoneType"))) := (rfl)
end
end MV
namespace MV
open PySem PySem.Spec PyProof.Rows L2
def ePopW (i : Nat) (f : M D) : M D := fun e => match lstAt i e with
  | none => .stuck
  | some _ => bnd f (fun k => fun e => match lstAt i e, k with
    | some ds, .int z => match ixN ds.length z with
      | some j => match ds[j]? with
        | some d => if ds.length ≤ LIM then .ok d (e.set i (some (.lst (ds.eraseIdx j)))) else .stuck
        | none => .stuck
      | none => .stuck
    | _, _ => .stuck) e
def eLenW (i : Nat) : M D := fun e => match lstAt i e with
  | some ds => .ok (.int ds.length) e
  | none => .stuck
def sRetW (i : Nat) : M Fl := fun e => match lstAt i e with
  | some ds => .ok (.rt (.lst ds)) (e.set i none)
  | none => .stuck
theorem RpL.eraseIdx {K : PySem.W.Frag} {x : Bool} {G : Hp} : ∀ {xs : List V} {ds : List D} (j : Nat), RpL K x G xs ds → RpL K x G (xs.eraseIdx j) (ds.eraseIdx j)
  | _, _, j, .nil => by simp; exact .nil
  | _, _, 0, .cons h r => r
  | _, _, j + 1, .cons h r => .cons h (RpL.eraseIdx j r)
section
variable {X : Cx} {cf : Cf} {W : WX} {c : Cls} {n n1 n2 : Bool}
theorem stp_w {R : Rs} {Hs H : Hp} {env : PEnv} {σ : L2.St} {F : Nat → List Addr} {wf : List Addr} {i : Nat} {p : Addr} {o : HO} {d : D} (r : Rel cf R Hs env σ H F wf) (hk : cf.kd i = .W) (hF : F i = [p]) : Stp cf wf env Hs H (env.set i (some d)) Hs (upd H p o) := by
  have hp : p ∈ F i := by rw [hF]; exact List.mem_singleton.mpr rfl
  refine ⟨fun a h => ?_, Ex.refl _, fun a u hw h => ?_, fun _ _ => rfl, fun j hj => ?_⟩
  · by_cases e : a = p
    · subst e; rw [upd_same]; exact fun z => by cases z
    · rw [upd_ne e]; exact h
  · rw [upd_ne (fun e => by subst e; exact hw (r.volw i hk _ hp))]; exact h
  · rw [List.getElem?_set_ne (fun e => by subst e; exact hj hk)]
theorem se_popW {i : Nat} {o e : Expr} {te : TE} {f : M D} {apos cpos : Pos} (hK : cf.K = X.K) (po : PE X o (tVar i)) (hk : cf.kd i = .W) (h : SE X cf W c n e te f)
    (hbase : attributeBase o "pop" X.env (eval o X.env) = eval o X.env := by rfl)
    (hfew : ((backTo cpos (starEach [e] X.env)).all (fun x => !x.1) && (backToKw cpos (keywordEach [] X.env)).all (fun x => x.1.isSome) && decide ([e].length + ([] : List Keyword).length + (if ([] : List Keyword).isEmpty then 0 else 1) < 30)) = true := by rfl)
    (hline : (apos.endLine == cpos.line) = true := by rfl) (hs : starEach [e] X.env = (false, eval e X.env) :: starEach [] X.env := by rfl) (hplain : (backTo cpos (starEach [] X.env)).any (·.1) = false := by rfl) :
    SE X cf W .V true (.Call (.Attribute o "pop" apos) [e] [] cpos) (tBM cf.K "list" rPopAt (tVar i) (tCons te tNil)) (ePopW i f) := by
  rw [hK]
  refine ⟨pe_bm PySem.F.plainAttrs_list PySem.F.slot_list_pop PySem.F.type_list_pop mt_popAt po (pa_cons h.p pa_nil hs) hbase hfew hline hs hplain, Sd.mk (fun R Hs env σ H F wf r d env' q Q k => ?_) (fun R Hs env σ H F wf r x env' q Q k => ?_)⟩
  · unfold ePopW at q
    cases q0 : lstAt i env with
    | none => simp only [q0] at q; cases q
    | some ds0 =>
      simp only [q0] at q
      obtain ⟨p0, xs0, dz, _, a1, a2, a3, a4, a5⟩ := own_listW r hk (lstAt_some q0)
      refine ⟨.ref p0, a1, .inl ⟨rfl, xs0, .inl (.inl a3)⟩, ?_⟩
      obtain ⟨kd, env1, q1, q2⟩ := bnd_ok q
      refine h.s.ok r q1 fun v Hs1 H1 s1 r1 p1 _ => ?_
      cases q3 : lstAt i env1 with
      | none => simp only [q3] at q2; cases q2
      | some ds =>
        simp only [q3] at q2
        cases kd with
        | int z =>
          simp only at q2
          cases qj : ixN ds.length z with
          | none => simp only [qj] at q2; cases q2
          | some j =>
            simp only [qj] at q2
            cases qd : ds[j]? with
            | none => simp only [qd] at q2; cases q2
            | some dj =>
              simp only [qd] at q2
              split at q2
              · rename_i hlim
                cases q2
                obtain ⟨p, xs, ds', e1, h1, h2, h3, h4, h5⟩ := own_listW r1 hk (lstAt_some q3)
                cases e1
                have ep : p = p0 := by rw [h1] at a1; cases a1; rfl
                subst ep
                obtain ⟨sq, jl, b1, b2⟩ := ixN_seq qj
                obtain ⟨w, hw, hr⟩ := h5.get qd
                have hsc : d.sc = true := List.all_eq_true.mp h4 d (List.mem_of_getElem? qd)
                have hL : (LIM : Nat) = 100000 := rfl
                refine ⟨p, xs, z, j, w, rfl, by rw [p1.int_inv], h3, by omega, by omega, by rw [h5.length]; exact sq, hw, ?_⟩
                have r2 := r1.mut (i := i) (p := p) (o' := .lst (xs.eraseIdx j)) (v := .ref p) (d0 := .lst ds) (d' := .lst (ds.eraseIdx j)) (by rw [h2]; exact List.mem_cons_self) (lstAt_some q3) h1 (by
                  rw [hk, h2]
                  refine ⟨p, _, _, rfl, rfl, rfl, upd_same, ?_, h5.eraseIdx j⟩
                  rw [List.all_eq_true]
                  intro y hy
                  exact List.all_eq_true.mp h4 y (List.mem_of_mem_eraseIdx hy))
                exact k w Hs1 _ (s1.trans (stp_w r1 hk h2)) r2 (hr.sc_any hsc _ _) fun _ _ => hr.sc_any hsc _ _
              · cases q2
        | _ => cases q2
  · unfold ePopW at q
    cases q0 : lstAt i env with
    | none => simp only [q0] at q; cases q
    | some ds0 =>
      simp only [q0] at q
      obtain ⟨p0, xs0, dz, _, a1, a2, a3, a4, a5⟩ := own_listW r hk (lstAt_some q0)
      refine ⟨.ref p0, a1, .inl ⟨rfl, xs0, .inl (.inl a3)⟩, ?_⟩
      rcases bnd_ex q with q | ⟨kd, env1, q1, q2⟩
      · exact h.s.exn r q k
      · exfalso
        cases q3 : lstAt i env1 with
        | none => simp only [q3] at q2; cases q2
        | some ds =>
          simp only [q3] at q2
          cases kd with
          | int z =>
            simp only at q2
            split at q2
            · split at q2
              · split at q2 <;> cases q2
              · cases q2
            · cases q2
          | _ => cases q2
theorem se_lenW {i : Nat} {o : Expr} {p pos : Pos} (hK : cf.K = X.K) (hm : X.mg "len" = none) (po : PE X o (tVar i)) (hk : cf.kd i = .W) (hg : Gl X "len" := by rfl) (he : starEach [o] X.env = (false, eval o X.env) :: starEach [] X.env := by rfl) (hpl : (backTo pos (starEach [] X.env)).any (·.1) = false := by rfl) :
    SE X cf W .V true (.Call (.Name "len" p) [o] [] pos) (tCB (fun xs H Q => ∃ x n, xs = [x] ∧ LenV cf.K x H n ∧ Q (.int n) H) (tCons (tVar i) tNil)) (eLenW i) := by
  rw [hK]
  refine ⟨pe_callB call_len hg hm PySem.boot_len (pa_cons po pa_nil he) (by decide) (by decide) he hpl, Sd.mk (fun R Hs env σ H F wf r d env' q Q k => ?_) (fun R Hs env σ H F wf r x env' q Q k => ?_)⟩
  · unfold eLenW at q
    split at q
    · rename_i ds q0
      cases q
      obtain ⟨p0, xs0, dz, e0, a1, a2, a3, a4, a5⟩ := own_listW r hk (lstAt_some q0)
      cases e0
      refine ⟨.ref p0, a1, .ref p0, xs0.length, rfl, .inl ⟨xs0, .inl (.inl a3), rfl⟩, ?_⟩
      rw [a5.length]
      exact k _ Hs H Stp.refl r (.int _) fun _ _ => .int _
    · cases q
  · unfold eLenW at q
    split at q <;> cases q
end
section
variable {e : PEnv} {f : M D} {i : Nat} {z : Str}
@[simp] theorem r_ePopW : ePopW i f e = ro (lstO (e[i]?)) fun _ => rb (f e) fun k e => ro (lstO (e[i]?)) fun ds => ro (asInt k) fun z => ro (L2.ixN ds.length z) fun j => ro (ds[j]?) fun d => if ds.length ≤ LIM then .ok d (e.set i (some (.lst (ds.eraseIdx j)))) else .stuck := by
  unfold ePopW
  show _ = ro (lstAt i e) _
  cases lstAt i e with
  | none => rfl
  | some ds =>
    show rb (f e) _ = _
    simp only [ro_some]
    congr 1; funext k e
    show _ = ro (lstAt i e) _
    cases lstAt i e with
    | none => rfl
    | some ds =>
      simp only [ro_some]
      cases k <;> first | rfl | (simp only [asInt_int, ro_some]; cases L2.ixN ds.length _ with | none => rfl | some j => (simp only [ro_some]; cases ds[j]? <;> rfl))
@[simp] theorem r_eLenW : eLenW i e = ro (lstO (e[i]?)) fun ds => .ok (.int ds.length) e := by
  unfold eLenW
  show _ = ro (lstAt i e) _
  cases lstAt i e <;> rfl
@[simp] theorem r_sRetW : sRetW i e = ro (lstO (e[i]?)) fun ds => .ok (.rt (.lst ds)) (e.set i none) := by
  unfold sRetW
  show _ = ro (lstAt i e) _
  cases lstAt i e <;> rfl
@[simp] theorem gList1_s : gList1 [.str z] = if z.length ≤ LIM then some (.lst (chD z)) else none := (rfl)
end
end MV
namespace MV
open PySem PySem.Spec PyProof.Rows L2
def SdOw (cf : Cf) (W : WX) (te : TE) (f : M D) : Prop :=
  ∀ (R : Rs) (Hs : Hp) (env : PEnv) (σ : L2.St) (H : Hp) (F : Nat → List Addr) (wf : List Addr), Rel cf R Hs env σ H F wf → ∀ Q : VK,
    match f env with
    | .ok d env' => (∀ v Hs' H' G, Stp cf wf env Hs H env' Hs' H' → Rel cf R Hs' env' σ H' F wf → Own cf.K (TH (rs (rm Hs' G) H)) H' G v d → G.Nodup → (∀ a ∈ G, H a = none ∧ H' a ≠ none) → Q v H') → te σ H Q
    | .ex x env' => (∀ Hs' H', Stp cf wf env Hs H env' Hs' H' → Rel cf R Hs' env' σ H' F wf → W (cf.cv x) none σ H') → te σ H Q
    | .stuck => True
def SdAw (cf : Cf) (W : WX) (ta : TA) (f : M (List D)) : Prop :=
  ∀ (R : Rs) (Hs : Hp) (env : PEnv) (σ : L2.St) (H : Hp) (F : Nat → List Addr) (wf : List Addr), Rel cf R Hs env σ H F wf → ∀ Q : List V → Hp → Prop,
    match f env with
    | .ok ds env' => (∀ vs Hs' H' G, Stp cf wf env Hs H env' Hs' H' → Rel cf R Hs' env' σ H' F wf → OwnL cf.K emp H' G vs ds → G.Nodup → (∀ a ∈ G, H a = none ∧ H' a ≠ none) → Q vs H') → ta σ H Q
    | .ex x env' => (∀ Hs' H', Stp cf wf env Hs H env' Hs' H' → Rel cf R Hs' env' σ H' F wf → W (cf.cv x) none σ H') → ta σ H Q
    | .stuck => True
def SGO (X : Cx) (cf : Cf) (W : WX) (i : Nat) (st : Stmt) (f : M D) : Prop := ∃ te, PS X st (tAsg te (gName i)) ∧ SdOw cf W te f
structure SEO (X : Cx) (cf : Cf) (W : WX) (e : Expr) (t : TE) (f : M D) : Prop where
  p : PE X e t
  s : SdOw cf W t f
structure SAO (X : Cx) (cf : Cf) (W : WX) (es : List Expr) (t : TA) (f : M (List D)) : Prop where
  p : PA X es t
  s : SdAw cf W t f
section
variable {X : Cx} {cf : Cf} {W : WX} {c : Cls} {n n1 n2 : Bool} {i : Nat}
theorem rs_dom {G A B : Hp} (d : ∀ a, A a ≠ none → B a ≠ none) : Ex (rs G B) (rs G A) := fun a o h => by
  cases q : A a with
  | none => rw [rs_none q]; exact rs_sub _ _ a o h
  | some u =>
    have := d a (by rw [q]; exact fun z => by cases z)
    cases q' : B a with
    | none => exact absurd q' this
    | some u' => rw [rs_some q'] at h; cases h
def gLstO (ds : List D) : Option D := if ds.length ≤ LIM then some (.lst ds) else none
def gTupO (ds : List D) : Option D := if ds.length ≤ LIM then some (.tup ds) else none
theorem ss_setO {st : Stmt} {f : M D} (h : SGO X cf W i st f) (hk : cf.kd i = .P) : SS X cf W st (sSet i f) := by
  obtain ⟨te, p, s⟩ := h
  refine ⟨_, p, fun R Hs env σ H F wf r D hp => ?_⟩
  have h := s R Hs env σ H F wf r fun v H1 => gName i v σ H1 D.nx
  unfold sSet bnd at hp
  cases q : f env with
  | stuck => rw [q] at hp; exact hp.elim
  | ex x env1 => rw [q] at h hp; exact h fun Hs1 H1 s1 r1 => hp Hs1 σ H1 F wf s1.ex r1
  | ok d env1 =>
    rw [q] at h hp
    refine h fun v Hs1 H1 G s1 r1 o nd nw => ?_
    obtain ⟨r2, e2⟩ := r.own s1 r1 (i := i) (v := v) (d := d) (Fn := G) (wf' := wf) (fun hh e => by
          cases z : R.io with
          | none => exact hh z
          | some q =>
            obtain ⟨_, _, h3, _⟩ := r.ior q z
            rw [← e, hk] at h3; cases h3) nd nw
      (fun b => ⟨.inl, fun z => z.elim id fun z => by rw [hk] at z; cases z.1⟩) (by rw [hk]; exact o.mono (th_mono (rs_dom r.dom0)) (Ex.refl _))
    exact hp _ _ H1 _ wf e2 r2
end
section
variable {ds : List D}
@[simp] theorem gLstO_ : gLstO ds = if ds.length ≤ LIM then some (.lst ds) else none := (rfl)
@[simp] theorem gTupO_ : gTupO ds = if ds.length ≤ LIM then some (.tup ds) else none := (rfl)
end
end MV
namespace MV
open PySem PySem.Spec PyProof.Rows L2
theorem OwnL.snoc {K : PySem.W.Frag} {Hn H : Hp} {v : V} {d : D} : ∀ {F F2 : List Addr} {xs : List V} {ds : List D}, OwnL K Hn H F xs ds → Own K Hn H F2 v d → OwnL K Hn H (F ++ F2) (xs ++ [v]) (ds ++ [d])
  | _, F2, _, _, .nil, h => by have := OwnL.cons h (.nil : OwnL K Hn H [] [] []); rw [List.append_nil] at this; exact this
  | _, F2, _, _, .cons (F := F1) h r, h2 => by rw [List.append_assoc]; exact .cons h (OwnL.snoc r h2)
section
variable {X : Cx} {cf : Cf} {W : WX}
theorem sd_lcE {wi : TI} {g : TG} {is : List Nat} {fi : M (List D)} {tg : D → M Unit} (hk : ∀ i ∈ is, cf.kd i = .S) (si : SdIB cf W wi fi) (sg : SdG cf is g tg) : SdOw cf W (tLc wi g tYes (tLst tNil) is) (eLc is fi tg tTrue (eN gLst aNil)) := by
  intro R Hs env σ H F wf r Q
  cases q : eLc is fi tg tTrue (eN gLst aNil) env with
  | stuck => trivial
  | ex x env' =>
    intro k
    rcases bnd_ex q with q | ⟨ds, env1, q1, q⟩
    · have h := si R Hs env σ H F wf r
      have h := h fun J H1 => ∀ D, H1 D = none → ∃ W : Nat → Nat → Hp → Prop, (∃ m, W 0 m (upd H1 D (.lst []))) ∧ ∀ i m H, W i m H → (J.stop i H ∧ Q (.ref D) H) ∨ (J.go i H ∧ ∃ Nx : Hp → Prop, (∀ H', Nx H' → ∃ m', m' < m ∧ W (i + 1) m' H') ∧ ∀ x H', J.yld i H x H' → g x (L2.wipe σ is) H' fun σ2 H2 => L2.wipe σ2 is = L2.wipe σ is ∧ tYes σ2 H2 fun b H3 => if b = true then tLst tNil σ2 H3 fun y H4 => ∃ acc, H4 D = some (.lst acc) ∧ acc.length < sizeLine ∧ Nx (upd H4 D (.lst (acc ++ [y]))) else Nx H3)
      rw [q] at h
      exact h k
    · split at q <;> cases q
  | ok d env' =>
    intro k
    obtain ⟨ds, env1, q1, q⟩ := bnd_ok q
    have h := si R Hs env σ H F wf r
    refine (show ∀ Rk : It → Hp → Prop, (∀ J G1 Hs' H', Stp cf wf env Hs H env1 Hs' H' → Rel cf R Hs' env1 σ H' F wf → Ex G1 (rm H' wf) → ItOkW cf.K J G1 Hs' ds → Rk J H') → wi σ H Rk from fun Rk kk => by
      have h := h Rk
      rw [q1] at h
      exact h kk) _ fun J G1 Hs1 H1 s1 r1 hG it => ?_
    intro Dp hD
    cases q2 : lcGo is tg tTrue (eN gLst aNil) ds [] (wipeE is env1) with
    | stuck => simp only [q2] at q; cases q
    | ex x e2 => simp only [q2] at q; cases q
    | ok acc e2 =>
    simp only [q2] at q
    cases q
    have rw0 : Rel cf R Hs1 (wipeE is env1) (L2.wipe σ is) H1 F wf := r1.wipe hk rfl
    have dF : ∀ i, Dp ∉ F i := fun i m => r1.fdom i Dp m hD
    have dW : Dp ∉ wf := fun m => (r1.wdom Dp m).1 hD
    have dS : Hs1 Dp = none := r1.exs.back hD
    have old : ∀ a, H1 a = none → H a = none := fun a h1 => by
      cases z : H a with
      | none => rfl
      | some o => exact absurd h1 (s1.dom a (by rw [z]; exact fun y => by cases y))
    refine ⟨fun i m H' => ∃ Hs2 env2 accV acc2 G, i ≤ ds.length ∧ m = ds.length - i ∧ Stp cf wf (wipeE is env1) Hs1 H1 env2 Hs2 H' ∧ Rel cf R Hs2 env2 (L2.wipe σ is) H' F wf ∧ H' Dp = some (.lst accV) ∧ Hs2 Dp = none ∧ OwnL cf.K emp H' G accV acc2 ∧ G.Nodup ∧ Dp ∉ G ∧ (∀ a ∈ G, H1 a = none ∧ H' a ≠ none ∧ Hs2 a = none) ∧ lcGo is tg tTrue (eN gLst aNil) (ds.drop i) acc2 env2 = .ok acc e2,
      ⟨ds.length, Hs1, wipeE is env1, [], [], [], Nat.zero_le _, by simp, ⟨fun a h => (Ex.new hD).dom h, Ex.refl _, fun a o _ h => Ex.new hD a o h, fun _ _ => rfl, fun _ _ => rfl⟩, rw0.bump dS dF, upd_same, dS, .nil, List.nodup_nil, (fun z => by cases z), (fun a m => by cases m), by rw [List.drop_zero]; exact q2⟩, ?_⟩
    rintro i m H' ⟨Hs2, env2, accV, acc2, G, hi, rfl, s2, r2, hD2, hS2, oa, nd, nD, nw, q3⟩
    have e12 : Ex G1 H' := fun a o h => by
      have h := hG a o h
      unfold rm at h
      split at h
      · cases h
      · rename_i hw; exact s2.keep a o hw h
    by_cases hlt : i < ds.length
    · refine .inr ⟨it.go i H' hlt e12, fun H'' => ∃ Hs2 env2 accV acc2 G, Stp cf wf (wipeE is env1) Hs1 H1 env2 Hs2 H'' ∧ Rel cf R Hs2 env2 (L2.wipe σ is) H'' F wf ∧ H'' Dp = some (.lst accV) ∧ Hs2 Dp = none ∧ OwnL cf.K emp H'' G accV acc2 ∧ G.Nodup ∧ Dp ∉ G ∧ (∀ a ∈ G, H1 a = none ∧ H'' a ≠ none ∧ Hs2 a = none) ∧ lcGo is tg tTrue (eN gLst aNil) (ds.drop (i + 1)) acc2 env2 = .ok acc e2, fun H'' hN => ?_, fun x H3 y => ?_⟩
      · obtain ⟨Hs3, env3, accV3, acc3, G3, z⟩ := hN
        exact ⟨ds.length - (i + 1), by omega, Hs3, env3, accV3, acc3, G3, hlt, rfl, z⟩
      · obtain ⟨eg, hy⟩ := it.yld i H' x H3 e12 hlt y
        obtain ⟨d, hd, hr⟩ := hy Hs2 s2.ex r2.exs
        have ed : ds.drop i = d :: ds.drop (i + 1) := by
          rw [List.drop_eq_getElem_cons hlt]
          rw [List.getElem?_eq_getElem hlt] at hd
          cases hd
          rfl
        rw [ed, lcGo] at q3
        obtain ⟨u, env3, qt, q4⟩ := bnd_ok q3
        have q5 : (bnd (eN gLst aNil) fun y => bnd (lift (if acc2.length < LIM then some () else none)) fun _ => fun e => lcGo is tg tTrue (eN gLst aNil) (ds.drop (i + 1)) (acc2 ++ [y]) (wipeE is e)) env3 = .ok acc e2 := q4
        obtain ⟨y6, env6, qe, q6⟩ := bnd_ok q5
        have ye : y6 = .lst [] ∧ env6 = env3 := by
          have : eN gLst aNil env3 = .ok (.lst []) env3 := by simp [eN, gLst, aNil, bnd, ret, lift]
          rw [this] at qe; cases qe; exact ⟨rfl, rfl⟩
        obtain ⟨rfl, rfl⟩ := ye
        obtain ⟨u2, env7, ql, q7⟩ := bnd_ok q6
        obtain ⟨ql, rfl⟩ := lift_ok ql
        split at ql
        case isFalse => cases ql
        rename_i hl
        have r3 := r2.grow eg
        have s3 : Stp cf wf env2 Hs2 H' env2 (grow Hs2 H' H3) H3 := Stp.grow r2.exs eg
        have hD3 : H3 Dp = some (.lst accV) := eg _ _ hD2
        have hS3 : grow Hs2 H' H3 Dp = none := by rw [grow_some hD2]; exact hS2
        have hg := sg R _ env2 (L2.wipe σ is) H3 F wf r3 d x hr
        refine (show ∀ Q : L2.St → Hp → Prop, (∀ σ', Rel cf R (grow Hs2 H' H3) env7 σ' H3 F wf → L2.wipe σ' is = L2.wipe (L2.wipe σ is) is → (∀ j, j ∉ is → env7[j]? = env2[j]?) → Q σ' H3) → g x (L2.wipe σ is) H3 Q from fun Q kk => by
          have hg := hg Q
          rw [qt] at hg
          exact hg kk) _ fun σ2 r4 w4 kj => ?_
        have ww : L2.wipe (L2.wipe σ is) is = L2.wipe σ is := by
          have : ∀ (js : List Nat), (∀ j ∈ js, j ∈ is) → L2.wipe (L2.wipe σ is) js = L2.wipe σ is := by
            intro js
            induction js with
            | nil => intro _; rfl
            | cons v vs ih =>
              intro hj
              show (L2.wipe (L2.wipe σ is) vs).set v none = L2.wipe σ is
              rw [ih fun j m => hj j (List.mem_cons_of_mem _ m)]
              apply List.ext_getElem?
              intro j
              by_cases e : v = j
              · subst e
                by_cases hl : v < (L2.wipe σ is).length
                · rw [List.getElem?_set_self hl]
                  cases z : (L2.wipe σ is)[v]? with
                  | none => rw [List.getElem?_eq_getElem hl] at z; cases z
                  | some o =>
                    cases o with
                    | none => rfl
                    | some w => exact absurd (hj v List.mem_cons_self) (wipe_some z).2
                · rw [List.getElem?_eq_none (by rw [List.length_set]; omega), List.getElem?_eq_none (by omega)]
              · rw [List.getElem?_set_ne e]
          exact this is fun _ m => m
        rw [ww] at w4
        refine ⟨w4, ?_⟩
        unfold tYes
        dsimp only
        rw [if_pos rfl]
        refine ⟨Nat.zero_le _, fun p hp => ⟨accV, ?_, by rw [oa.length]; exact lim_lt hl, ?_⟩⟩
        · rw [upd_ne (fun e => by rw [e, hp] at hD3; cases hD3)]; exact hD3
        have pD : p ≠ Dp := fun e => by rw [e, hD3] at hp; cases hp
        have pG : p ∉ G := fun m => (nw p m).2.1 (eg.back hp)
        have p1 : H1 p = none := by
          cases z : H1 p with
          | none => rfl
          | some o => exact absurd hp (s3.dom p (s2.dom p (by rw [z]; exact fun y => by cases y)))
        have pS : grow Hs2 H' H3 p = none := r3.exs.back hp
        have r4w : Rel cf R (grow Hs2 H' H3) (wipeE is env7) (L2.wipe σ is) H3 F wf := r4.wipe hk w4
        have r5 := (r4w.bump (p := p) (o := .lst []) pS (fun i m => r4w.fdom i p m hp)).bump (p := Dp) (o := .lst (accV ++ [.ref p])) hS3 dF
        have kpw : ∀ j, cf.kd j ≠ .W → (wipeE is env7)[j]? = (wipeE is env1)[j]? := fun j hj => by
          by_cases m : j ∈ is
          · have hl : (wipeE is env7).length = (wipeE is env1).length := by rw [r4w.len, rw0.len]
            cases z : (wipeE is env7)[j]? with
            | none => rw [List.getElem?_eq_none_iff] at z; rw [List.getElem?_eq_none (by omega)]
            | some o =>
              cases o with
              | some w => exact absurd m (wipeE_get z).2
              | none =>
                cases z2 : (wipeE is env1)[j]? with
                | none => rw [List.getElem?_eq_none_iff] at z2; rw [List.getElem?_eq_none (by omega)] at z; cases z
                | some o2 =>
                  cases o2 with
                  | some w => exact absurd m (wipeE_get z2).2
                  | none => rfl
          · rw [wipeE_out m, kj j m]; exact s2.kp j hj
        have s5 : Stp cf wf (wipeE is env1) Hs1 H1 (wipeE is env7) (grow Hs2 H' H3) (upd (upd H3 p (.lst [])) Dp (.lst (accV ++ [.ref p]))) := by
          refine ⟨fun a h => ?_, s2.ex.trans s3.ex, fun a o hw h => ?_, fun a h => (s3.same a (s2.dom a h)).trans (s2.same a h), kpw⟩
          · have n1 : a ≠ Dp := fun e => by subst e; exact h hD
            have n2 : a ≠ p := fun e => by subst e; exact h p1
            rw [upd_ne n1, upd_ne n2]; exact s3.dom a (s2.dom a h)
          · have n1 : a ≠ Dp := fun e => by subst e; rw [hD] at h; cases h
            have n2 : a ≠ p := fun e => by subst e; rw [p1] at h; cases h
            rw [upd_ne n1, upd_ne n2]; exact s3.keep a o hw (s2.keep a o hw h)
        refine ⟨_, _, accV ++ [.ref p], acc2 ++ [.lst []], G ++ [p], s5, r5, upd_same, hS3, ?_, ?_, ?_, ?_, q7⟩
        · refine OwnL.snoc (oa.keep (Ex.refl _) fun a m o ha => ?_) (.lst (by rw [upd_ne pD, upd_same]) .nil)
          rw [upd_ne (fun e => nD (by rw [← e]; exact m)), upd_ne (fun e => pG (by rw [← e]; exact m))]
          exact eg _ _ ha
        · exact List.nodup_append.mpr ⟨nd, by simp, fun a m b m2 e => by rw [List.mem_singleton.mp m2] at e; subst e; exact pG m⟩
        · intro m
          rcases List.mem_append.mp m with m | m
          · exact nD m
          · exact pD (List.mem_singleton.mp m).symm
        · intro a m
          rcases List.mem_append.mp m with m | m
          · obtain ⟨z1, z2, z3⟩ := nw a m
            refine ⟨z1, ?_, ?_⟩
            · rw [upd_ne (fun e => nD (by rw [← e]; exact m)), upd_ne (fun e => pG (by rw [← e]; exact m))]; exact eg.dom z2
            · cases z : H' a with
              | none => exact absurd z z2
              | some o => rw [grow_some z]; exact z3
          · rw [List.mem_singleton.mp m]
            exact ⟨p1, by rw [upd_ne pD, upd_same]; exact (fun z => by cases z), pS⟩
    · have e : i = ds.length := by omega
      subst e
      rw [List.drop_length, lcGo] at q3
      cases q3
      refine .inl ⟨it.stop H' e12, ?_⟩
      have r7 : Rel cf R Hs2 (restE is env1 e2) σ H' F wf := Rel.rest r1 r2 s2.ex hk
      refine k (.ref Dp) Hs2 H' (Dp :: G) ⟨fun a h => s2.dom a (s1.dom a h), s1.ex.trans s2.ex, fun a o hw h => s2.keep a o hw (s1.keep a o hw h), fun a h => ?_, fun j hj => ?_⟩ r7 (Own.mono (emp_ex _) (Ex.refl _) (.lst hD2 oa)) (List.nodup_cons.mpr ⟨nD, nd⟩) fun a m => ?_
      · rw [s2.same a (s1.dom a h), s1.same a h]
      · by_cases m : j ∈ is
        · rw [restE_in m (by have := r2.len; rw [wipe_length] at this; rw [this, r1.len])]; exact s1.kp j hj
        · rw [restE_out m, s2.kp j hj, wipeE_out m]; exact s1.kp j hj
      · rcases List.mem_cons.mp m with rfl | m
        · exact ⟨old _ hD, by rw [hD2]; exact fun z => by cases z⟩
        · exact ⟨old a (nw a m).1, (nw a m).2.1⟩
theorem sgo_lcE {i : Nat} {y : Str} {py lp : Pos} {tg iter : Expr} {scope : Scope} {own : List (Str × Nat)} {pos spos : Pos} {wi : TI} {g : TG} {fi : M (List D)} {ftg : D → M Unit} (hk : ∀ i ∈ own.map (·.2), cf.kd i = .S) (hc : X.calm = true) (hN : X.N.Nodup) (hy : X.N[i]? = some y) (hyl : X.env.scope.names.lookup y = some .local)
    (hsw : swapsWith (.ListComp (.List [] lp) [⟨tg, iter, [], 0⟩] scope pos) (some (.Name y py)) spos.line X.env = pure true) (hi : SIB X cf W tg iter wi fi) (ok : BlkOk X.N X.env.scope scope own)
    (hg : ∀ (s : Shared) (H : Hp) (C : Addr) (cl : List (Str × Addr)) (fp : List Addr), SGt (X.blk s H scope (compEnvC scope cl C X.env) fp) cf (own.map (·.2)) tg g ftg) (hs : ∀ x, foldedSetIterable iter X.env x = pure x := by intro _; rfl) :
    SGO X cf W i (.Assign [.Name y py] (.ListComp (.List [] lp) [⟨tg, iter, [], 0⟩] scope pos) spos) (eLc (own.map (·.2)) fi ftg tTrue (eN gLst aNil)) :=
  ⟨_, ps_setLc hc hN hy hyl hsw hi.p ok (fun s H C cl fp => (hg s H C cl fp).p) (fun s H C cl fp => pts_nil) (fun s H C cl fp => pe_lst pa_nil) hs, sd_lcE hk hi.s (hg X.s_0 X.H_0 0 [] []).s⟩
end
end MV
namespace MV
open PySem PySem.Spec PyProof.Rows L2
section
variable {P : Program} {w : World} {A : Around} {E : Value → Shared → Prop} {s : Shared}
set_option maxHeartbeats 8000000 in
theorem call_set_lstI {l : Addr} {items : Array Value} (ns : List Int) {Q : Value → Shared → Prop} (hh : A.handled = none) (hl : s.heap.IsList l items) (hit : IntsAre items.toList ns) (hb : ns.length + 1 < scanBound)
    (h : ∀ (h' : Heap) (tk c : Nat), SetR w h' s.heap.objs.size (fun j => decide (j ∈ ns)) c → c ≤ ns.length → (∀ b o, s.heap.get? b = some o → h'.get? b = some o) → Q (.ref s.heap.objs.size) { s with heap := h', toks := tk }) :
    wpAny (model P w) A (call (.type "set") [.ref l]) Q E s := by
  have hisz : items.size = ns.length := by
    have q := IntsAre.length hit
    rw [Array.length_toList] at q
    exact q
  obtain ⟨c, tl, hmro⟩ := F.called_set.mro
  have hmade := F.called_set.made
  have hsub := F.called_set.sub
  refine wpAny_call (codeAny_of_tree ?_)
  show wpAny _ _ (callAny (.type "set") _) _ _ _
  refine wpAny_pure ⟨Code.quiet_builtin _ (by decide +kernel), codeAny_builtin F.entry_type_call ?_⟩
  rw [Around.under_plain (weight_type_call_type "set" [.ref l] []) rfl]
  have h1 := F.called_set.notType
  have h2 := F.called_set.canCreate
  have hct := F.typeCall_set_1 (.ref l)
  repeat (any_goals (first | assumption | wp_step))
  refine codeAny_mono (code_set_led1 (.ref l) (E := E) (Q₁ := fun obj s₁ => obj = .ref s.heap.objs.size ∧ s₁ = { s with heap := s.heap.push { cls := .type "set", dict := none, data := .set #[] 0 (.fresh 0 0 (!w.params.followText "set-order")) } }) ⟨rfl, rfl⟩) fun r s₁ hr => ?_
  cases r with
  | error e => exact hr
  | ok fl =>
    cases fl with
    | ret obj =>
      obtain ⟨rfl, rfl⟩ := hr
      have hS : (s.heap.push { cls := .type "set", dict := none, data := .set #[] 0 (.fresh 0 0 (!w.params.followText "set-order")) }).get? s.heap.objs.size = some { cls := .type "set", dict := none, data := .set #[] 0 (.fresh 0 0 (!w.params.followText "set-order")) } := Heap.get?_push_size _ rfl
      have hT : Shared.TypeIs { s with heap := s.heap.push { cls := .type "set", dict := none, data := .set #[] 0 (.fresh 0 0 (!w.params.followText "set-order")) } } (.ref s.heap.objs.size) "set" := ⟨_, hS, rfl⟩
      have hli := F.called_set.init.lookup
      have hbi := F.called_set.init.bind (.ref s.heap.objs.size)
      repeat (any_goals (first | assumption | wp_step))
      refine codeAny_mono (codeAny_call_builtin (R := wants (fun r s₂ => r = .none ∧ ∃ h' tk c, s₂ = { s with heap := h', toks := tk } ∧ SetR w h' s.heap.objs.size (fun j => decide (j ∈ ns)) c ∧ c ≤ ns.length ∧
          (∀ b o, s.heap.get? b = some o → h'.get? b = some o)) E) F.called_set.init.plain F.entry_set_init (check_set_init_1 hT ?_)) fun r₂ s₂ hr₂ => ?_
      · obtain ⟨ol, hol, hcl, nl, hdl⟩ := hl
        obtain ⟨ocls, odict, odata, oslots⟩ := ol
        simp only at hcl hdl
        subst hcl; subst hdl
        have hol' : (s.heap.push { cls := .type "set", dict := none, data := .set #[] 0 (.fresh 0 0 (!w.params.followText "set-order")) }).get? l = some { cls := .type "list", dict := odict, data := .seq items nl, slots := oslots } := Heap.get?_push_of_some _ hol
        have hsls := F.sub_list_set
        have hslf := F.sub_list_frozenset
        have hne : (Value.type "list" == Value.type "dict") = false := by decide
        have hl1 : (s.heap.push { cls := .type "set", dict := none, data := .set #[] 0 (.fresh 0 0 (!w.params.followText "set-order")) }).IsList l items := ⟨_, hol', rfl, nl, rfl⟩
        unfold Builtin.«set.__init__» noKeywords Builtin.Frozenset.updateFrom
        generalize hPI : pyIter = PI
        wp_walk
        subst hPI
        refine wpAny_pyIter_list hl1 ?_
        refine wpAny_bind (wpAny_runValue ?_)
        have hlS : l < s.heap.objs.size := Heap.lt_size hol
        have hh3 : A.in1.in1.in1.handled = none := by simp [hh]
        have hneI : l ≠ (s.heap.push { cls := .type "set", dict := none, data := .set #[] 0 (.fresh 0 0 (!w.params.followText "set-order")) }).objs.size := by
          rw [Heap.size_push]; exact Nat.ne_of_lt (Nat.lt_succ_of_lt hlS)
        have hSf : s.heap.objs.size ∉ [(s.heap.push { cls := .type "set", dict := none, data := .set #[] 0 (.fresh 0 0 (!w.params.followText "set-order")) }).objs.size, l] := by
          rw [Heap.size_push]; simp only [List.mem_cons, List.mem_singleton, List.not_mem_nil, or_false, not_or]
          exact ⟨Nat.ne_of_lt (Nat.lt_succ_self _), Nat.ne_of_gt hlS⟩
        have hval : ∀ (i : Nat) (v : Value), items[i]? = some v → ∃ k t, ns[i]? = some k ∧ v = .int k t := fun i v hv => by
          have hi : i < ns.length := by rw [← hisz]; exact (Array.getElem?_eq_some_iff.mp hv).1
          obtain ⟨t, e⟩ := PyProof.Rows.IntsAre.int_at hit i v (by rw [Array.getElem?_toList]; exact hv)
          refine ⟨ns[i], t, List.getElem?_eq_getElem hi, ?_⟩
          rw [e, List.getD_eq_getElem?_getD, List.getElem?_eq_getElem hi] <;> rfl
        refine set_update_ints ((Walks.list hh3 _ l hneI items).toS) s.heap.objs.size
          hSf ns hisz hb hval (items.size - 0) 0 _ (by omega) (Nat.zero_le _)
          ⟨⟨_, Heap.get?_push_size _ rfl, rfl, rfl⟩, (hl1.push _)⟩ ?hS0 ?hR
        case hS0 =>
          have hget : ((s.heap.push { cls := .type "set", dict := none, data := .set #[] 0 (.fresh 0 0 (!w.params.followText "set-order")) }).push { cls := .type "list_iterator", data := .fields #[.ref l, .int 0 0] }).get? s.heap.objs.size
              = some { cls := .type "set", dict := none, data := .set #[] 0 (.fresh 0 0 (!w.params.followText "set-order")) } := Heap.get?_push_of_some _ hS
          exact ⟨0, Nat.le_refl 0, setR_new_at hget⟩
        case hR =>
          intro s' c' hm hc' hS'
          obtain ⟨h', g2, d', tk', os'⟩ := s'
          have eg : g2 = s.gens := hm.gens
          have ed : d' = s.drawn := hm.drawn
          have eo : os' = s.os := hm.os
          subst eg; subst ed; subst eo
          show wpAny _ _ _ _ _ _
          refine wpAny_pure ?_
          show wpAny _ _ (PySem.ret Value.none) _ _ _
          rw [hisz] at hc'
          refine wpAny_pure ⟨rfl, h', tk', c', rfl, hS', hc', fun b o e => ?_⟩
          have hb0 : b < s.heap.objs.size := Heap.lt_size e
          have hb1 : b ≠ s.heap.objs.size := Nat.ne_of_lt hb0
          have hb2 : b ≠ (s.heap.push { cls := .type "set", dict := none, data := .set #[] 0 (.fresh 0 0 (!w.params.followText "set-order")) }).objs.size := by
            rw [Heap.size_push]; exact Nat.ne_of_lt (Nat.lt_succ_of_lt hb0)
          exact hm.heap b o (by simp only [List.mem_cons, List.mem_singleton, List.not_mem_nil, or_false, not_or]; exact ⟨hb1, hb2⟩) (Heap.get?_push_of_some _ (Heap.get?_push_of_some _ e))
      · cases r₂ with
        | error e => exact hr₂
        | ok fl₂ =>
          cases fl₂ with
          | ret r =>
            obtain ⟨rfl, h', tk, c', rfl, hS', hc', hk'⟩ := hr₂
            repeat (any_goals (first | assumption | wp_step))
            exact h _ _ _ hS' hc' hk'
          | _ => exact hr₂.elim
    | _ => exact hr.elim
theorem sort_tail {vs : List Value} {ns : List Int} {Q : Value → Shared → Prop} (hI : IntsAre vs ns) (hz : vs.length ≤ sizeLine)
    (h : ∀ (h' : Heap) (out : List Value) (c : Nat), (∀ b o, s.heap.get? b = some o → h'.get? b = some o) → h'.get? s.heap.objs.size = some (seqObj "list" out.toArray c) → IntsAre out (out.map SrtO.iv) → (out.map SrtO.iv).Perm ns → (out.map SrtO.iv).Pairwise (· ≤ ·) → Q (.ref s.heap.objs.size) { s with heap := h' }) :
    wpAny (model P w) A (newList vs >>= fun l => holding [l] (call (.builtin "list.sort") [l]) >>= fun _ => pure (PySem.Fin.done (.ret l))) (fun f s' => ∃ v, f = .done (.ret v) ∧ Q v s') E s := by
  refine wpAny_bind (wpAny_newList ?_ hz)
  have hoL : (s.heap.push (seqObj "list" vs.toArray 0)).get? s.heap.objs.size = some (seqObj "list" vs.toArray 0) := Heap.get?_push_size _ rfl
  show wpAny _ _ _ _ _ { s with heap := s.heap.push (seqObj "list" vs.toArray 0) }
  refine wpAny_bind (wpAny_holding (wpAny_call_entry PyProof.Rows.slot_list_sort ⟨_, hoL, rfl⟩ PyProof.Rows.entry_list_sort
    (SrtO.list_sort_ord (s := { s with heap := s.heap.push (seqObj "list" vs.toArray 0) }) SrtO.swo_int hoL hz (fun h2 => SrtO.ints_sortable hI h2) fun out h1 h2 => ⟨_, rfl, ?_⟩) (PyProof.Rows.args_list_sort _)))
  obtain ⟨k1, k2, k3⟩ := SrtO.ints_out hI h1 h2
  obtain ⟨e', he'⟩ := PyProof.Rows.sortedHeap_at (vs := vs) (out := out.toArray) hoL
  refine wpAny_pure ⟨_, rfl, h _ out e' (fun b u e => ?_) he' k1 k2 k3⟩
  have hb : b < s.heap.objs.size := Heap.lt_size e
  show (sortedHeap (s.heap.push (seqObj "list" vs.toArray 0)) s.heap.objs.size vs out.toArray).get? b = some u
  rw [PyProof.Rows.sortedHeap_old (Nat.ne_of_lt hb) (by rw [size_push']; exact Nat.lt_succ_of_lt hb)]
  exact Heap.get?_push_of_some _ e
end
section
variable {X : Cx}
def rSetL (K : PySem.W.Frag) (w : World) : List V → Hp → VK → Prop := fun xs H Q => ∃ (l : Addr) (ns : List Int), xs = [.ref l] ∧ SqL K H l (ns.map V.int) ∧ ns.length ≤ 4000 ∧ ∀ p c, H p = none → c ≤ ns.length → Q (.ref p) (upd H p (SetO w p (fun j => decide (j ∈ ns)) c))
theorem cr_setL (hc : X.calm = true) : CallR X (.type "set") (rSetL X.K X.w) := by
  intro pins s σ H xs us Q I r h
  obtain ⟨l, ns, rfl, hq, hl, q⟩ := h
  obtain ⟨its, rv, pl, hz⟩ := I.list hq
  rw [Vals.ref1 r]
  refine call_set_lstI ns (I.ok.hd hc) pl.isList (by simpa using ints_of_vals rv) (by unfold scanBound; omega) fun h' tk c R hcn k => ?_
  exact ⟨.ref _, upd H s.heap.objs.size (SetO X.w s.heap.objs.size (fun j => decide (j ∈ ns)) c), I.laid (t' := tk) k (Nat.le_refl _) (setO_new R), rfl, q _ c (I.hok.fresh (Nat.le_refl _)) hcn⟩
def rSortedSN (w : World) : List V → Hp → VK → Prop := fun vs H Q => ∃ (a : Addr) (S : Int → Bool) (n : Nat), vs = [V.ref a] ∧ H a = some (SetO w a S n) ∧
  ∀ (ns : List Int) (p : Addr), ns.Pairwise (· < ·) → (∀ k : Int, k ∈ ns ↔ S k = true) → H p = none → Q (.ref p) (upd H p (.lst (ns.map V.int)))
theorem cr_sortedSN (hc : X.calm = true) : CallR X (.builtin "sorted") (rSortedSN X.w) := by
  intro pins s σ H vs us Q I r h
  obtain ⟨a, S, n, rfl, ha, q⟩ := h
  have R := setO_get I ha
  rw [Vals.ref1 r]
  obtain ⟨o, es, ep, t, ho, hex, hd, g, nd, hm, hb, hf, hn, hr, hl⟩ := R
  refine Calls.call_function_entry kind_sorted plain_sorted entry_sorted (args_sorted1 _) ?_
  unfold Builtin.«sorted»
  refine wpAny_bind (m := checkCount "sorted" 1 1 _) (wpAny_pure ?_)
  refine wpAny_bind (collect_set (A := X.A.in1) (I.ok.hd hc) ⟨o, ho, hex.1, hd⟩ hf hb hr hl fun s1 vs k1 hz g1 o1 pm => ?_)
  have hvl : vs.length = n := by rw [pm.length_eq, List.length_map, Array.length_toList]; exact hn
  have hI : IntsAre vs (vs.map Builtin.Re.reRawOf) := ints_of vs fun v hv => by
    obtain ⟨e, he, q⟩ := List.mem_map.mp (pm.mem_iff.mp hv)
    obtain ⟨k, tk, h1, _⟩ := g e he
    exact ⟨k, tk, by rw [← q]; exact h1⟩
  have pk : (vs.map Builtin.Re.reRawOf).Perm (es.toList.map keyOf) := by
    have q := pm.map Builtin.Re.reRawOf
    rw [List.map_map] at q
    exact q
  have hzz : vs.length ≤ sizeLine := by rw [hvl, ← hn]; exact fits_of_scanBound hb
  refine sort_tail hI hzz fun h' out c k2 hp j1 j2 j3 => ?_
  have pn := j2.trans pk
  have hlen : ((out.map SrtO.iv).map V.int).length ≤ sizeLine := by rw [List.length_map, j2.length_eq, List.length_map]; exact hzz
  have hnn : H s1.heap.objs.size = none := I.hok.fresh hz
  have J : Inv X pins σ (upd H s1.heap.objs.size (.lst ((out.map SrtO.iv).map V.int))) { s with heap := h', gens := s1.gens, drawn := s1.drawn, toks := s1.toks } :=
    I.call (ch := []) (Un.laid (fun b o e => k2 b o (k1 b o e)) hz hnn) (I.hok.laid (fun b o e => k2 b o (k1 b o e)) hz ⟨hlen, out, c, vals_of_ints j1, hp⟩) (by rw [g1]; exact I.bare) (fun _ z => nomatch z)
  have e : ({ s1 with heap := h' } : Shared) = { s with heap := h', gens := s1.gens, drawn := s1.drawn, toks := s1.toks } := by
    cases s1
    cases s
    cases o1
    rfl
  rw [e]
  exact ⟨.ref _, _, J, rfl, q _ _ (lt_of_le_nodup _ j3 (pn.nodup_iff.mpr nd)) (fun k => by rw [pn.mem_iff, ← hm k]) hnn⟩
def rSortedDN : List V → Hp → VK → Prop := fun xs H Q => ∃ (a : Addr) (kvs : List (Key × V)) (ks : List Int), xs = [.ref a] ∧ Rd H a (.dK kvs) ∧ kvs.map (·.1) = ks.map Sum.inl ∧
    ∀ (ys : List Int) (p : Addr), ys.Perm ks → ys.Pairwise (· ≤ ·) → H p = none → Q (.ref p) (upd H p (.lst (ys.map V.int)))
theorem cr_sortedDN (hcalm : X.calm = true) : CallR X (.builtin "sorted") rSortedDN := by
  intro pins s σ H xs us Q I r q
  obtain ⟨a, kvs, ks, ex, hd, hks, q⟩ := q
  subst ex
  rw [Vals.ref1 r]
  obtain ⟨z, lo, vs, rel, dd⟩ := dk_rd I.hok hd
  obtain ⟨ep, hat⟩ := dd.dictAt
  have hkeys : vs.map (·.1) = ks.map Sum.inl := rel.keys.symm.trans hks
  have hl : vs.length = ks.length := by
    have e := congrArg List.length hkeys
    rw [List.length_map, List.length_map] at e
    exact e
  have h16 : vs.length ≤ sizeLine := by rw [← rel.length]; exact z
  refine Calls.call_function_entry PyProof.Rows.kind_sorted PyProof.Rows.plain_sorted PyProof.Rows.entry_sorted (PyProof.Rows.args_sorted1 _) ?_
  unfold Builtin.«sorted»
  refine wpAny_bind (m := checkCount "sorted" 1 1 _) (wpAny_pure ?_)
  refine wpAny_bind (PySem.W.kdu_collect (A := X.A.in1) (PySem.W.kdl_dict (knd := mixKind X.prog X.w) (kvs := vs) (ep := ep) lo) (I.ok.hd hcalm) hat h16 fun h' tk acc hk hacc => ?_)
  have hal : acc.toList.length = ks.length := by rw [Array.length_toList, hacc.1, hl]
  have hS : IntsAre acc.toList ks := ints_each hal fun j v e => by
    obtain ⟨k, x, e1, e2⟩ := hacc.2 j v (by rw [← Array.getElem?_toList]; exact e)
    have e3 : (vs.map (·.1))[j]? = some k := by rw [List.getElem?_map, e1]; rfl
    rw [hkeys, List.getElem?_map] at e3
    cases e4 : ks[j]? with
    | none => rw [e4] at e3; cases e3
    | some y =>
      rw [e4] at e3
      have e5 : Sum.inl y = k := Option.some.inj e3
      subst e5
      rcases keyIs_shape (show keyIs (Sum.inl y) v = true from e2) with ⟨i, t, ek, ev⟩ | ⟨z, t, ek, ev⟩
      · cases ek
        exact ⟨y, t, rfl, ev⟩
      · cases ek
  have I1 : Inv X pins σ H { s with heap := h', toks := tk } := I.kept hk
  have hzz : acc.toList.length ≤ sizeLine := by rw [hal, ← hl]; exact h16
  refine sort_tail (s := { s with heap := h', toks := tk }) hS hzz fun h2 out c k2 hp j1 j2 j3 => ?_
  have hlen : ((out.map SrtO.iv).map V.int).length ≤ sizeLine := by rw [List.length_map, j2.length_eq, ← hal]; exact hzz
  exact ⟨.ref h'.objs.size, upd H h'.objs.size (.lst ((out.map SrtO.iv).map V.int)), I1.laid (t' := tk) k2 (Nat.le_refl _) ⟨hlen, out, c, vals_of_ints j1, hp⟩, rfl, q _ _ j2 j3 (I1.hok.fresh (Nat.le_refl _))⟩
end
end MV
namespace MV
open PySem PySem.Spec PyProof.Rows L2
def insD (k : Int) : List Int → List Int
  | [] => [k]
  | x :: r => if k < x then k :: x :: r else if k = x then x :: r else x :: insD k r
def dsI (ns : List Int) : List Int := ns.foldr insD []
theorem mem_insD {k y : Int} : ∀ {l : List Int}, y ∈ insD k l ↔ y = k ∨ y ∈ l
  | [] => by simp [insD]
  | x :: r => by
    unfold insD
    split
    · simp
    · split
      · rename_i h; subst h; simp
      · simp only [List.mem_cons, mem_insD (l := r)]
        constructor
        · rintro (h | h | h)
          · exact .inr (.inl h)
          · exact .inl h
          · exact .inr (.inr h)
        · rintro (h | h | h)
          · exact .inr (.inl h)
          · exact .inl h
          · exact .inr (.inr h)
theorem lt_insD {k : Int} : ∀ {l : List Int}, l.Pairwise (· < ·) → (insD k l).Pairwise (· < ·)
  | [], _ => List.pairwise_singleton _ _
  | x :: r, h => by
    obtain ⟨h1, h2⟩ := List.pairwise_cons.mp h
    unfold insD
    split
    · rename_i hk
      refine List.pairwise_cons.mpr ⟨fun y hy => ?_, h⟩
      rcases List.mem_cons.mp hy with rfl | hy
      · exact hk
      · have := h1 y hy; omega
    · split
      · exact h
      · refine List.pairwise_cons.mpr ⟨fun y hy => ?_, lt_insD h2⟩
        rcases mem_insD.mp hy with rfl | hy
        · omega
        · exact h1 y hy
theorem mem_dsI {y : Int} : ∀ {ns : List Int}, y ∈ dsI ns ↔ y ∈ ns
  | [] => Iff.rfl
  | n :: ns => by
    show y ∈ insD n (dsI ns) ↔ _
    rw [mem_insD, mem_dsI (ns := ns), List.mem_cons]
theorem lt_dsI : ∀ ns : List Int, (dsI ns).Pairwise (· < ·)
  | [] => List.Pairwise.nil
  | n :: ns => lt_insD (lt_dsI ns)
theorem lt_unique : ∀ {a b : List Int}, a.Pairwise (· < ·) → b.Pairwise (· < ·) → (∀ k, k ∈ a ↔ k ∈ b) → a = b := fun {a b} ha hb h => by
  refine List.Perm.eq_of_pairwise (le := (· < ·)) (fun x y _ _ h1 h2 => by omega) ha hb ?_
  refine (List.perm_ext_iff_of_nodup (ha.imp fun h => Int.ne_of_lt h) (hb.imp fun h => Int.ne_of_lt h)).mpr h
theorem dsI_of {ns : List Int} (h : ns.Pairwise (· < ·)) : dsI ns = ns := lt_unique (lt_dsI ns) h fun k => mem_dsI
def srtI (ns : List Int) : List Int := ns.mergeSort fun a b => decide (a ≤ b)
theorem srtI_perm (ns : List Int) : (srtI ns).Perm ns := List.mergeSort_perm _ _
theorem srtI_le (ns : List Int) : (srtI ns).Pairwise (· ≤ ·) := by
  have h := List.pairwise_mergeSort (le := fun a b : Int => decide (a ≤ b)) (fun a b c h1 h2 => by
    have h1 := of_decide_eq_true h1
    have h2 := of_decide_eq_true h2
    exact decide_eq_true (by omega)) (fun a b => by
      rw [Bool.or_eq_true, decide_eq_true_iff, decide_eq_true_iff]; omega) ns
  exact h.imp fun h => of_decide_eq_true h
theorem srtI_unique {ns a : List Int} (h1 : a.Perm ns) (h2 : a.Pairwise (· ≤ ·)) : a = srtI ns :=
  List.Perm.eq_of_pairwise (le := (· ≤ ·)) (fun x y _ _ h1 h2 => by omega) h2 (srtI_le ns) (h1.trans (srtI_perm ns).symm)
def keysI : List (Key × D) → Option (List Int)
  | [] => some []
  | (.inl i, _) :: r => (keysI r).map (i :: ·)
  | _ :: _ => none
theorem keysI_some : ∀ {kvs : List (Key × D)} {ks : List Int}, keysI kvs = some ks → kvs.map (·.1) = ks.map Sum.inl
  | [], ks, h => by cases h; rfl
  | (.inl i, d) :: r, ks, h => by
    unfold keysI at h
    obtain ⟨ks', h1, rfl⟩ := Option.map_eq_some_iff.mp h
    rw [List.map_cons, List.map_cons, keysI_some h1]
  | (.inr x, d) :: r, ks, h => by cases h
def gSorted : List D → Option D
  | [.lst ds] => (asInts ds).map fun ns => .lst ((srtI ns).map .int)
  | [.dic kvs] => (keysI kvs).map fun ns => .lst ((srtI ns).map .int)
  | _ => none
def gSortSet : List D → Option D
  | [.lst ds] => match asInts ds with
    | some ns => if ns.length ≤ 4000 then some (.lst ((dsI ns).map .int)) else none
    | none => none
  | _ => none
theorem ints_rp {K : PySem.W.Frag} {x : Bool} {G : Hp} : ∀ ns : List Int, RpL K x G (ns.map V.int) (ns.map D.int)
  | [] => .nil
  | n :: ns => .cons (.int n) (ints_rp ns)
theorem Rp.dic_invX {K : PySem.W.Frag} {x : Bool} {G : Hp} {v : V} {kvs : List (Key × D)} (h : Rp K x G v (.dic kvs)) : ∃ a kvs', v = .ref a ∧ DqK x G a kvs' ∧ kvs'.map (·.1) = kvs.map (·.1) ∧ RpL K x G (kvs'.map (·.2)) (kvs.map (·.2)) := by
  generalize e : D.dic kvs = d at h
  cases h with
  | sc h => subst e; cases h
  | dic h n r =>
    cases e
    rename_i a ks vs ds
    have l2 : ks.length = ds.length := n.trans r.length
    refine ⟨a, _, rfl, h, ?_, ?_⟩
    · rw [List.map_fst_zip (by omega), List.map_fst_zip (by omega)]
    · rw [List.map_snd_zip (by omega), List.map_snd_zip (by omega)]; exact r
  | _ => cases e
theorem Rp.dic_inv {K : PySem.W.Frag} {G : Hp} {v : V} {kvs : List (Key × D)} (h : Rp K true G v (.dic kvs)) : ∃ a kvs', v = .ref a ∧ G a = some (.dK kvs') ∧ kvs'.map (·.1) = kvs.map (·.1) ∧ RpL K true G (kvs'.map (·.2)) (kvs.map (·.2)) := h.dic_invX
theorem Rp.dit_inv {K : PySem.W.Frag} {x : Bool} {G : Hp} {v : V} {kvs : List (List Key × D)} (h : Rp K x G v (.dit kvs)) : ∃ a kvs', v = .ref a ∧ Rd G a (.dT kvs') ∧ kvs'.map (·.1) = kvs.map (·.1) ∧ RpL K x G (kvs'.map (·.2)) (kvs.map (·.2)) := by
  generalize e : D.dit kvs = d at h
  cases h with
  | sc h => subst e; cases h
  | dit h n r =>
    cases e
    rename_i a ks vs ds
    have l2 : ks.length = ds.length := n.trans r.length
    refine ⟨a, _, rfl, h, ?_, ?_⟩
    · rw [List.map_fst_zip (by omega), List.map_fst_zip (by omega)]
    · rw [List.map_snd_zip (by omega), List.map_snd_zip (by omega)]; exact r
  | _ => cases e
theorem zip_fs {α β : Type} (l : List (α × β)) : (l.map (·.1)).zip (l.map (·.2)) = l := by
  induction l with
  | nil => rfl
  | cons p r ih => simp [ih]
theorem Rp.dic_mk {K : PySem.W.Frag} {x : Bool} {G : Hp} {a : Addr} {kvs' : List (Key × V)} {kvs : List (Key × D)} (h : DqK x G a kvs') (h1 : kvs'.map (·.1) = kvs.map (·.1)) (h2 : RpL K x G (kvs'.map (·.2)) (kvs.map (·.2))) : Rp K x G (.ref a) (.dic kvs) := by
  have := Rp.dic (K := K) (x := x) (G := G) (a := a) (ks := kvs.map (·.1)) (vs := kvs'.map (·.2)) (ds := kvs.map (·.2)) (by rw [← h1, zip_fs]; exact h) (by rw [← h1, List.length_map, List.length_map]) h2
  rw [zip_fs] at this
  exact this
theorem Rp.dit_mk {K : PySem.W.Frag} {x : Bool} {G : Hp} {a : Addr} {kvs' : List (List Key × V)} {kvs : List (List Key × D)} (h : Rd G a (.dT kvs')) (h1 : kvs'.map (·.1) = kvs.map (·.1)) (h2 : RpL K x G (kvs'.map (·.2)) (kvs.map (·.2))) : Rp K x G (.ref a) (.dit kvs) := by
  have := Rp.dit (K := K) (x := x) (G := G) (a := a) (ks := kvs.map (·.1)) (vs := kvs'.map (·.2)) (ds := kvs.map (·.2)) (by rw [← h1, zip_fs]; exact h) (by rw [← h1, List.length_map, List.length_map]) h2
  rw [zip_fs] at this
  exact this
def rSorted2 (K : PySem.W.Frag) : List V → Hp → VK → Prop := fun xs H Q => rSortedI K xs H Q ∨ rSortedDN xs H Q
theorem snd_sorted {K : PySem.W.Frag} : SndN K true (rSorted2 K) gSorted := fun G H xs ds d e h q Q k => by
  unfold gSorted at q
  split at q
  · rename_i es
    obtain ⟨ns, q1, rfl⟩ := Option.map_eq_some_iff.mp q
    obtain ⟨v, rfl, hv⟩ := h.one
    obtain ⟨a, ys, rfl, s1, r1⟩ := hv.lst_inv
    have s1 : G a = some (.lst ys) := s1
    rw [asInts_rp r1 q1] at s1
    refine .inl ⟨a, ns, rfl, .inl (.inl (e _ _ s1)), fun ns' p h1 h2 hp => ?_⟩
    rw [srtI_unique h1 h2]
    exact k _ _ (Ex.new hp) (new_rp e hp (ints_rp _)) (new_nn (G := G) hp (ints_rp _))
  · rename_i kvs
    obtain ⟨ns, q1, rfl⟩ := Option.map_eq_some_iff.mp q
    obtain ⟨v, rfl, hv⟩ := h.one
    obtain ⟨a, kvs', rfl, s1, r1, r2⟩ := hv.dic_inv
    refine .inr ⟨a, kvs', ns, rfl, .inl (e _ _ s1), r1.trans (keysI_some q1), fun ns' p h1 h2 hp => ?_⟩
    rw [srtI_unique h1 h2]
    exact k _ _ (Ex.new hp) (new_rp e hp (ints_rp _)) (new_nn (G := G) hp (ints_rp _))
  · cases q
def rSortSet (K : PySem.W.Frag) (w : World) : List V → Hp → VK → Prop := fun xs H Q => rSetL K w xs H fun v H1 => rSortedSN w [v] H1 Q
theorem snd_sortSet {K : PySem.W.Frag} {w : World} : SndN K true (rSortSet K w) gSortSet := fun G H xs ds d e h q Q k => by
  unfold gSortSet at q
  split at q
  · rename_i es
    split at q
    · rename_i ns q1
      split at q
      · rename_i hl
        cases q
        obtain ⟨v, rfl, hv⟩ := h.one
        obtain ⟨a, ys, rfl, s1, r1⟩ := hv.lst_inv
        have s1 : G a = some (.lst ys) := s1
        rw [asInts_rp r1 q1] at s1
        refine ⟨a, ns, rfl, .inl (.inl (e _ _ s1)), hl, fun p c hp hc => ⟨p, _, c, rfl, upd_same, fun ns' p2 h1 h2 hp2 => ?_⟩⟩
        have en : ns' = dsI ns := lt_unique h1 (lt_dsI ns) fun j => by rw [h2, mem_dsI, decide_eq_true_iff]
        rw [en]
        have x1 := Ex.new (o := SetO w p (fun j => decide (j ∈ ns)) c) hp
        have np : H p2 = none := x1.back hp2
        have x2 := x1.trans (Ex.new (o := .lst ((dsI ns).map V.int)) hp2)
        refine k _ _ x2 (.lst ?_ (ints_rp _)) fun _ _ => .lst ?_ (ints_rp _)
        · exact SqLx.of (by rw [grow_none np, upd_same])
        · exact SqLx.of (by rw [nw_none np, upd_same])
      · cases q
    · cases q
  · cases q
section
variable {X : Cx} {cf : Cf} {W : WX} {c : Cls} {n n1 n2 : Bool}
theorem se_sorted {e : Expr} {ta : TA} {fa : M (List D)} {p pos : Pos} (hK : cf.K = X.K) (hc : X.calm = true) (hm : X.mg "sorted" = none) (ha : SA X cf W c [e] ta fa) (hg : Gl X "sorted" := by rfl) (he : starEach [e] X.env = (false, eval e X.env) :: starEach [] X.env := by rfl) :
    SE X cf W .V true (.Call (.Name "sorted" p) [e] [] pos) (tCB (rSorted2 cf.K) ta) (eF (eN gSorted fa)) :=
  (se_cb (by rw [hK]; exact CallR.or cr_sortedI (cr_sortedDN hc)) snd_sorted hg hm (by first | rfl | decide +kernel) ha (by decide) (by decide) he rfl).flat
theorem se_sortSet {e : Expr} {ta : TA} {fa : M (List D)} {p p2 pos pos2 : Pos} (hK : cf.K = X.K) (hc : X.calm = true) (hm : X.mg "sorted" = none) (hm2 : X.mg "set" = none) (ha : SA X cf W c [e] ta fa) (hg : Gl X "sorted" := by rfl) (hg2 : Gl X "set" := by rfl) (he : starEach [e] X.env = (false, eval e X.env) :: starEach [] X.env := by rfl)
    (he2 : starEach [.Call (.Name "set" p2) [e] [] pos2] X.env = (false, eval (.Call (.Name "set" p2) [e] [] pos2) X.env) :: starEach [] X.env := by rfl) :
    SE X cf W .V true (.Call (.Name "sorted" p) [.Call (.Name "set" p2) [e] [] pos2] [] pos) (tCB (rSortSet cf.K X.w) ta) (eF (eN gSortSet fa)) := by
  refine SE.flat ⟨?_, sd_opN snd_sortSet ha.s⟩
  have p1 : PE X (.Call (.Name "set" p2) [e] [] pos2) (tCB (rSetL cf.K X.w) ta) := pe_callTy (by rw [hK]; exact cr_setL hc) hg2 hm2 (by first | rfl | decide +kernel) ha.p (by decide) (by decide) he rfl
  exact pe_callB (t := tCons (tCB (rSetL cf.K X.w) ta) tNil) (cr_sortedSN hc) hg hm (by first | rfl | decide +kernel) (pa_cons p1 pa_nil he2) (by decide) (by decide) he2 rfl
end
end MV
namespace MV
open PySem PySem.Spec PyProof.Rows L2
def gR3 : List D → Option (List D)
  | [.int i, .int j, .int c] => if smallI i && smallI j && decide (c = -1) then some (rngC i (-1) (i - j).toNat) else none
  | _ => none
section
variable {X : Cx} {cf : Cf} {W : WX} {c : Cls} {n n1 n2 : Bool} {tg : Expr}
end
@[simp] theorem gR3_i {i j : Int} : gR3 [.int i, .int j, .int (-1)] = if smallI i && smallI j then some (rngC i (-1) (i - j).toNat) else none := by
  unfold gR3; simp
def keyD : D → Option Key
  | .int i => some (.inl i)
  | .str x => some (.inr x)
  | _ => none
def keysD : List D → Option (List Key)
  | [] => some []
  | d :: r => match keyD d, keysD r with
    | some k, some ks => some (k :: ks)
    | _, _ => none
def dval {κ : Type} [DecidableEq κ] (kvs : List (κ × D)) (k : κ) : Option D := (kvs.find? fun kv => decide (kv.1 = k)).map (·.2)
def dput {κ : Type} [DecidableEq κ] (kvs : List (κ × D)) (k : κ) (d : D) : List (κ × D) :=
  if (kvs.any fun kv => decide (kv.1 = k)) = true then kvs.map (fun kv => if kv.1 = k then (kv.1, d) else kv) else kvs ++ [(k, d)]
def dLook : D → D → Option (Option D)
  | .dic kvs, y => (keyD y).map fun k => dval kvs k
  | .dit kvs, .tup ks => (keysD ks).map fun k => dval kvs k
  | _, _ => none
def isDic : D → Option Unit
  | .dic _ => some ()
  | .dit _ => some ()
  | _ => none
theorem keyD_v {K : PySem.W.Frag} {x : Bool} {G : Hp} {y : V} {d : D} {k : Key} (h : Rp K x G y d) (q : keyD d = some k) : y = kV k := by
  cases d with
  | int i => cases q; exact h.int_inv
  | str z => cases q; exact h.str_inv
  | _ => cases q
theorem keysD_v {K : PySem.W.Frag} {x : Bool} {G : Hp} : ∀ {ys : List V} {ds : List D} {ks : List Key}, RpL K x G ys ds → keysD ds = some ks → ys = ks.map kV
  | _, _, _, .nil, q => by cases q; rfl
  | _, _, _, .cons h r, q => by
    unfold keysD at q
    split at q
    · rename_i k ks q1 q2
      cases q
      rw [List.map_cons, keyD_v h q1, keysD_v r q2]
    · cases q
def OR (K : PySem.W.Frag) (G : Hp) : Option D → Option V → Prop
  | none, none => True
  | some d, some v => Rp K true G v d
  | _, _ => False
section
variable {κ : Type} [DecidableEq κ] {K : PySem.W.Frag} {x : Bool} {G : Hp}
theorem val_rp {k : κ} : ∀ {kvs' : List (κ × V)} {kvs : List (κ × D)}, kvs'.map (·.1) = kvs.map (·.1) → RpL K true G (kvs'.map (·.2)) (kvs.map (·.2)) → OR K G (dval kvs k) (valV kvs' k)
  | [], [], _, _ => True.intro
  | p :: r, q :: s, h1, h2 => by
    rw [List.map_cons, List.map_cons] at h1 h2
    injection h1 with e1 e2
    cases h2 with
    | cons h2 h3 =>
      by_cases e : p.1 = k
      · have e' : q.1 = k := e1 ▸ e
        rw [valV_pos e]
        have : dval (q :: s) k = some q.2 := by simp [dval, e']
        rw [this]; exact h2
      · have e' : ¬ q.1 = k := fun z => e (e1.trans z)
        rw [valV_neg e]
        have : dval (q :: s) k = dval s k := by simp [dval, e']
        rw [this]; exact val_rp e2 h3
  | [], _ :: _, h1, _ => by cases h1
  | _ :: _, [], h1, _ => by cases h1
theorem any_rp {k : κ} : ∀ {kvs' : List (κ × V)} {kvs : List (κ × D)}, kvs'.map (·.1) = kvs.map (·.1) → (kvs'.any fun kv => decide (kv.1 = k)) = kvs.any fun kv => decide (kv.1 = k)
  | [], [], _ => rfl
  | p :: r, q :: s, h1 => by
    rw [List.map_cons, List.map_cons] at h1
    injection h1 with e1 e2
    rw [List.any_cons, List.any_cons, any_rp e2, e1]
  | [], _ :: _, h1 => by cases h1
  | _ :: _, [], h1 => by cases h1
theorem map_rp {k : κ} {v : V} {d : D} (hv : Rp K x G v d) : ∀ {kvs' : List (κ × V)} {kvs : List (κ × D)}, kvs'.map (·.1) = kvs.map (·.1) → RpL K x G (kvs'.map (·.2)) (kvs.map (·.2)) →
    (kvs'.map fun kv => if kv.1 = k then (kv.1, v) else kv).map (·.1) = (kvs.map fun kv => if kv.1 = k then (kv.1, d) else kv).map (·.1) ∧
    RpL K x G ((kvs'.map fun kv => if kv.1 = k then (kv.1, v) else kv).map (·.2)) ((kvs.map fun kv => if kv.1 = k then (kv.1, d) else kv).map (·.2))
  | [], [], _, _ => ⟨rfl, .nil⟩
  | p :: r, q :: s, h1, h2 => by
    rw [List.map_cons, List.map_cons] at h1 h2
    injection h1 with e1 e2
    cases h2 with
    | cons h2 h3 =>
      obtain ⟨i1, i2⟩ := map_rp (k := k) hv e2 h3
      simp only [List.map_cons]
      by_cases e : p.1 = k
      · have e' : q.1 = k := e1 ▸ e
        rw [if_pos e, if_pos e', i1, e1]
        exact ⟨rfl, .cons hv i2⟩
      · have e' : ¬ q.1 = k := fun z => e (e1.trans z)
        rw [if_neg e, if_neg e', i1, e1]
        exact ⟨rfl, .cons h2 i2⟩
  | [], _ :: _, h1, _ => by cases h1
  | _ :: _, [], h1, _ => by cases h1
theorem put_rp {k : κ} {v : V} {d : D} (hv : Rp K x G v d) {kvs' : List (κ × V)} {kvs : List (κ × D)} (h1 : kvs'.map (·.1) = kvs.map (·.1)) (h2 : RpL K x G (kvs'.map (·.2)) (kvs.map (·.2))) :
    (putK kvs' k v).map (·.1) = (dput kvs k d).map (·.1) ∧ RpL K x G ((putK kvs' k v).map (·.2)) ((dput kvs k d).map (·.2)) := by
  unfold putK dput
  rw [any_rp h1]
  split
  · exact map_rp hv h1 h2
  · rw [List.map_append, List.map_append, List.map_append, List.map_append, h1]
    exact ⟨rfl, h2.append (.cons hv .nil)⟩
end
theorem look_rp {K : PySem.W.Frag} {G H : Hp} {x y : V} {d e : D} {o : Option D} (ex : Ex G H) (h1 : Rp K true G x d) (h2 : Rp K true G y e) (q : dLook d e = some o) : ∃ a ov, x = .ref a ∧ IsD H a ∧ DGet H a y ov ∧ OR K G o ov := by
  unfold dLook at q
  split at q
  · rename_i kvs
    obtain ⟨k, q1, rfl⟩ := Option.map_eq_some_iff.mp q
    obtain ⟨a, kvs', rfl, g, r1, r2⟩ := h1.dic_inv
    exact ⟨a, valV kvs' k, rfl, .inl ⟨_, .inl (ex _ _ g)⟩, .inl ⟨_, k, .inl (ex _ _ g), keyD_v h2 q1, rfl⟩, val_rp r1 r2⟩
  · rename_i kvs ks
    obtain ⟨k, q1, rfl⟩ := Option.map_eq_some_iff.mp q
    obtain ⟨a, kvs', rfl, g, r1, r2⟩ := h1.dit_inv
    obtain ⟨b, ys, rfl, s1, r3⟩ := h2.tup_inv
    have s1 : G b = some (.tup ys) := s1
    rw [keysD_v r3 q1] at s1
    exact ⟨a, valV kvs' k, rfl, .inr ⟨_, rd_mono ex g⟩, .inr ⟨_, k, b, rd_mono ex g, rfl, ex _ _ s1, rfl⟩, val_rp r1 r2⟩
  · cases q
def gDIx (x y : D) : Option D := match dLook x y with
  | some (some d) => some d
  | _ => none
def rDIx : R2 := fun x y H Q => ∃ a v, x = .ref a ∧ DGet H a y (some v) ∧ Q v H
theorem snd_dix {K : PySem.W.Frag} : Snd2 K false rDIx gDIx := fun G H x y d1 d2 d e h1 h2 q Q k => by
  unfold gDIx at q
  split at q
  · rename_i d' q1
    cases q
    obtain ⟨a, ov, rfl, _, g, o⟩ := look_rp e h1 h2 q1
    cases ov with
    | none => exact o.elim
    | some v => exact ⟨a, v, rfl, g, k v H (Ex.refl H) (Rp.mono (Ex.grow e (Ex.refl H)) o) fun z => by cases z⟩
  · cases q
def gDNewK : List D → Option D := fun _ => some (.dic [])
def gDNewT : List D → Option D := fun _ => some (.dit [])
def rDNewK : List V → Hp → VK → Prop := fun _ H Q => ∀ p, H p = none → Q (.ref p) (upd H p (.dK []))
theorem snd_dnewK {K : PySem.W.Frag} : SndN K true rDNewK gDNewK := fun G H xs ds d e h q Q k => by
  cases q
  exact fun p hp => k _ _ (Ex.new hp) (.dic_mk (kvs' := []) (kvs := []) (by show grow _ _ _ _ = _; rw [grow_none hp, upd_same]) rfl .nil) fun _ hf => by cases hf
def eDGet1 (fo fk : M D) : M D := bnd fo fun d => bnd (lift (isDic d)) fun _ => bnd fk fun k => lift ((dLook d k).map fun o => o.getD .non)
def eDGet2 (fo fk fx : M D) : M D := bnd fo fun d => bnd (lift (isDic d)) fun _ => bnd fk fun k => bnd fx fun x => lift ((dLook d k).map fun o => o.getD x)
theorem isD_rp {K : PySem.W.Frag} {G H : Hp} {x : V} {d : D} (e : Ex G H) (h : Rp K true G x d) {z : Unit} (q : isDic d = some z) : ∃ a, x = .ref a ∧ IsD H a := by
  cases d with
  | dic kvs => obtain ⟨a, _, rfl, g, _⟩ := h.dic_inv; exact ⟨a, rfl, .inl ⟨_, .inl (e _ _ g)⟩⟩
  | dit kvs => obtain ⟨a, _, rfl, g, _⟩ := h.dit_inv; exact ⟨a, rfl, .inr ⟨_, rd_mono e g⟩⟩
  | _ => cases q
section
variable {X : Cx} {cf : Cf} {W : WX} {c : Cls} {n n1 n2 n3 : Bool}
theorem sd_dget1 {to tk : TE} {fo fk : M D} (ho : Sd cf W c n1 to fo) (hk : Sd cf W c n2 tk fk) : Sd cf W c false (tDGet1 to tk) (eDGet1 fo fk) := by
  refine Sd.mk (fun R Hs env σ H F wf r d env' q Q k => ?_) (fun R Hs env σ H F wf r x env' q Q k => ?_)
  · obtain ⟨d1, env1, q1, qa⟩ := bnd_ok q
    obtain ⟨u, env2, qu, qb⟩ := bnd_ok qa
    obtain ⟨qv, rfl⟩ := lift_ok qu
    obtain ⟨d2, env3, q2, q⟩ := bnd_ok qb
    obtain ⟨qg, rfl⟩ := lift_ok q
    obtain ⟨o, ql, rfl⟩ := Option.map_eq_some_iff.mp qg
    refine ho.ok r q1 fun v Hs1 H1 s1 r1 p1 _ => ?_
    obtain ⟨a, rfl, ia⟩ := isD_rp (rg_sub r1.exs) p1 qv
    refine ⟨a, rfl, ia, hk.ok r1 q2 fun v2 Hs2 H2 s2 r2 p2 _ => ?_⟩
    obtain ⟨a', ov, e', _, g, oo⟩ := look_rp (G := rg c R.H0 Hs2 H H2 wf) (H := H2) (rg_sub r2.exs) (p1.mono (rg_step s2)) (p2.mono (rg_start s1.dom)) ql
    cases e'
    refine ⟨ov, g, k _ Hs2 H2 (s1.trans s2) r2 ?_ fun z => by cases z⟩
    cases o with
    | none => cases ov with
      | none => exact .non
      | some v => exact oo.elim
    | some d => cases ov with
      | none => exact oo.elim
      | some v => exact oo
  · rcases bnd_ex q with q | ⟨d1, env1, q1, q⟩
    · exact ho.exn r q fun Hs' H' s' r' => k Hs' H' s' r'
    · rcases bnd_ex q with q | ⟨u, env2, qu, qb⟩
      · exact (lift_ex q).elim
      · obtain ⟨qv, rfl⟩ := lift_ok qu
        rcases bnd_ex qb with q | ⟨d2, env2, q2, q⟩
        · refine ho.ok r q1 fun v Hs1 H1 s1 r1 p1 _ => ?_
          obtain ⟨a, rfl, ia⟩ := isD_rp (rg_sub r1.exs) p1 qv
          exact ⟨a, rfl, ia, hk.exn r1 q fun Hs2 H2 s2 r2 => k Hs2 H2 (s1.trans s2) r2⟩
        · exact (lift_ex q).elim
theorem sd_dget2 {to tk tx : TE} {fo fk fx : M D} (ho : Sd cf W c n1 to fo) (hk : Sd cf W c n2 tk fk) (hx : Sd cf W c n3 tx fx) : Sd cf W c false (tDGet2 to tk tx) (eDGet2 fo fk fx) := by
  refine Sd.mk (fun R Hs env σ H F wf r d env' q Q k => ?_) (fun R Hs env σ H F wf r x env' q Q k => ?_)
  · obtain ⟨d1, env1, q1, qa⟩ := bnd_ok q
    obtain ⟨u, env2, qu, qb⟩ := bnd_ok qa
    obtain ⟨qv, rfl⟩ := lift_ok qu
    obtain ⟨d2, env3, q2, q⟩ := bnd_ok qb
    obtain ⟨d3, env4, q3, q⟩ := bnd_ok q
    obtain ⟨qg, rfl⟩ := lift_ok q
    obtain ⟨o, ql, rfl⟩ := Option.map_eq_some_iff.mp qg
    refine ho.ok r q1 fun v Hs1 H1 s1 r1 p1 _ => ?_
    obtain ⟨a, rfl, ia⟩ := isD_rp (rg_sub r1.exs) p1 qv
    refine ⟨a, rfl, ia, hk.ok r1 q2 fun v2 Hs2 H2 s2 r2 p2 _ => hx.ok r2 q3 fun v3 Hs3 H3 s3 r3 p3 _ => ?_⟩
    obtain ⟨a', ov, e', _, g, oo⟩ := look_rp (G := rg c R.H0 Hs3 H H3 wf) (H := H3) (rg_sub r3.exs) (p1.mono (rg_step (s2.trans s3))) ((p2.mono (rg_start s1.dom)).mono (rg_step s3)) ql
    cases e'
    have s12 := s1.trans s2
    refine ⟨ov, g, k _ Hs3 H3 (s12.trans s3) r3 ?_ fun z => by cases z⟩
    cases o with
    | none => cases ov with
      | none => exact p3.mono (rg_start s12.dom)
      | some v => exact oo.elim
    | some d => cases ov with
      | none => exact oo.elim
      | some v => exact oo
  · rcases bnd_ex q with q | ⟨d1, env1, q1, q⟩
    · exact ho.exn r q fun Hs' H' s' r' => k Hs' H' s' r'
    · rcases bnd_ex q with q | ⟨u, env2, qu, qb⟩
      · exact (lift_ex q).elim
      · obtain ⟨qv, rfl⟩ := lift_ok qu
        rcases bnd_ex qb with q | ⟨d2, env2, q2, q⟩
        · refine ho.ok r q1 fun v Hs1 H1 s1 r1 p1 _ => ?_
          obtain ⟨a, rfl, ia⟩ := isD_rp (rg_sub r1.exs) p1 qv
          exact ⟨a, rfl, ia, hk.exn r1 q fun Hs2 H2 s2 r2 => k Hs2 H2 (s1.trans s2) r2⟩
        · rcases bnd_ex q with q | ⟨d3, env3, q3, q⟩
          · refine ho.ok r q1 fun v Hs1 H1 s1 r1 p1 _ => ?_
            obtain ⟨a, rfl, ia⟩ := isD_rp (rg_sub r1.exs) p1 qv
            exact ⟨a, rfl, ia, hk.ok r1 q2 fun v2 Hs2 H2 s2 r2 p2 _ => hx.exn r2 q fun Hs3 H3 s3 r3 => k Hs3 H3 ((s1.trans s2).trans s3) r3⟩
          · exact (lift_ex q).elim
theorem se_dix {a b : Expr} {ta tb : TE} {fa fb : M D} {pos : Pos} (hu : X.A.units + 64 < cLine) (ha : SE X cf W c n1 a ta fa) (hb : SE X cf W c n2 b tb fb) (hs : NoSl b := by intro _ _; rfl) : SE X cf W c false (.Subscript a b pos) (tOp rDIx ta tb) (e2 gDIx fa fb) :=
  ⟨pe_dget (by omega) ha.p hb.p hs, sd_op2 snd_dix ha.s hb.s⟩
theorem se_dnewK {pos : Pos} : SE X cf W .V true (.Dict [] [] pos) (tCB rDNewK tNil) (eN gDNewK aNil) := ⟨pe_dnewK, sd_opN snd_dnewK sda_nil⟩
theorem se_dget1 {o e : Expr} {to tk : TE} {fo fk : M D} {apos cpos : Pos} (hu : X.A.units + 64 < cLine) (ho : SE X cf W c n1 o to fo) (hk : SE X cf W c n2 e tk fk) (m : M1 X o "get" apos e cpos := by exact ⟨rfl, rfl, rfl, rfl⟩) : SE X cf W c false (.Call (.Attribute o "get" apos) [e] [] cpos) (tDGet1 to tk) (eDGet1 fo fk) :=
  ⟨pe_dget1 (by omega) ho.p hk.p m, sd_dget1 ho.s hk.s⟩
theorem se_dget2 {o e f : Expr} {to tk tx : TE} {fo fk fx : M D} {apos cpos : Pos} (hu : X.A.units + 64 < cLine) (ho : SE X cf W c n1 o to fo) (hk : SE X cf W c n2 e tk fk) (hx : SE X cf W c n3 f tx fx) (m : M2 X o "get" apos e f cpos := by exact ⟨rfl, rfl, rfl, rfl⟩) : SE X cf W c false (.Call (.Attribute o "get" apos) [e, f] [] cpos) (tDGet2 to tk tx) (eDGet2 fo fk fx) :=
  ⟨pe_dget2 (by omega) ho.p hk.p hx.p m, sd_dget2 ho.s hk.s hx.s⟩
def dok : D → Bool
  | .dic [] => true
  | .dit [] => true
  | _ => false
def sSetD (i : Nat) (f : M D) : M Fl := bnd f fun d => bnd (lift (if dok d then some d else none)) fun d => fun e => .ok .nx (e.set i (some d))
theorem dnewK_dic {env e' : PEnv} {d : D} (h : eN gDNewK aNil env = .ok d e') : ∃ kvs, d = .dic kvs := by cases h; exact ⟨[], rfl⟩
theorem ss_setD {i : Nat} {st : Stmt} {f : M D} (h : SG X cf W .V n i st f) (hk : cf.kd i = .M) (hd : ∀ env d e', f env = .ok d e' → ∃ kvs, d = .dic kvs) : SS X cf W st (sSetD i f) := by
  obtain ⟨te, p, s⟩ := h
  refine ⟨_, p, fun R Hs env σ H F wf r D hp => ?_⟩
  have s0 := s R Hs env σ H F wf r fun v H1 => gName i v σ H1 D.nx
  have hp0 := hp
  unfold sSetD bnd at hp0
  cases qf : f env with
  | stuck => rw [qf] at hp0; exact hp0.elim
  | ex x env1 => rw [qf] at s0 hp0; exact s0 fun Hs1 H1 s1 r1 => hp0 Hs1 σ H1 F wf s1.ex r1
  | ok d env1 =>
  obtain ⟨kvs0, rfl⟩ := hd _ d env1 qf
  rw [qf] at s0 hp0
  refine s0 fun v Hs1 H1 s1 r1 p1 _ => ?_
  have hp : Post cf W R Hs D (bnd (lift (if dok (.dic kvs0) then some (.dic kvs0) else none)) (fun d => fun e => .ok .nx (e.set i (some d))) env1) := hp0
  obtain ⟨d', e, hp⟩ := post_lift hp
  split at e
  · cases e
    rename_i hm
    have p1 : Rp cf.K true (rs Hs1 H) v (.dic kvs0) := p1
    have hio : R.io ≠ none → i ≠ 0 := fun hh e => by
        cases z : R.io with
        | none => exact hh z
        | some q =>
          obtain ⟨_, _, h3, _⟩ := r.ior q z
          rw [← e, hk] at h3; cases h3
    have fin : ∀ (a : Addr) (o : HO), v = .ref a → rs Hs1 H a = some o → (H1 a = some o → Own cf.K (rs (rm Hs1 [a]) R.H0) H1 [a] (.ref a) (.dic kvs0)) → D.nx (σ.set i (some v)) H1 := fun a o ev h1 ow => by
      subst ev
      have hna : H a = none := by
        cases z : H a with
        | none => rfl
        | some o => rw [rs_some z] at h1; cases h1
      rw [rs_none hna] at h1
      obtain ⟨r2, e2⟩ := r.own s1 r1 (i := i) (v := .ref a) (d := .dic kvs0) (Fn := [a]) (wf' := wf) hio (by simp)
        (fun b m => by
          rw [List.mem_singleton.mp m]
          exact ⟨hna, by rw [r1.exs _ _ h1]; exact fun z => by cases z⟩)
        (fun b => ⟨.inl, fun z => z.elim id fun z => by rw [hk] at z; cases z.1⟩)
        (by rw [hk]; exact ⟨ow (r1.exs _ _ h1), fun z => (by cases z), Nat.le_refl _⟩)
      exact hp _ _ H1 _ wf e2 r2
    cases kvs0 with
    | cons _ _ => cases hm
    | nil =>
      obtain ⟨a, kvs', rfl, h1, h2, h3⟩ := p1.dic_inv
      cases kvs' with
      | cons _ _ => cases h2
      | nil => exact fin a _ rfl h1 fun ha => Own.dic (ks := []) (vs := []) (ds := []) ha rfl .nil
  · cases e
end
end MV
namespace MV
open PySem PySem.Spec PyProof.Rows L2
def dPut : D → D → D → Option D
  | .dic kvs, y, v => match keyD y with
    | some k => if kvs.length < LIM then some (.dic (dput kvs k v)) else none
    | none => none
  | .dit kvs, .tup ks, v => match keysD ks with
    | some k => if kvs.length < LIM then some (.dit (dput kvs k v)) else none
    | none => none
  | _, _, _ => none
def dicAt (i : Nat) (e : PEnv) : Option D := match e[i]? with
  | some (some d) => if (isDic d).isSome then some d else none
  | _ => none
theorem dicAt_some {i : Nat} {e : PEnv} {d : D} (h : dicAt i e = some d) : e[i]? = some (some d) ∧ (isDic d).isSome = true := by
  unfold dicAt at h
  split at h
  · rename_i q
    split at h
    · rename_i z; cases h; exact ⟨q, z⟩
    · cases h
  · cases h
def sDP (i : Nat) (fv fk : M D) : M Fl := bnd fv fun d => fun e => match dicAt i e with
  | none => .stuck
  | some _ => bnd fk (fun k => fun e => match dicAt i e with
    | some m => match dPut m k d with
      | some m' => .ok .nx (e.set i (some m'))
      | none => .stuck
    | none => .stuck) e
section
variable {X : Cx} {cf : Cf} {W : WX} {c : Cls} {n n1 n2 n3 : Bool}
theorem own_dic {R : Rs} {Hs : Hp} {env : PEnv} {σ : L2.St} {H : Hp} {F : Nat → List Addr} {wf : List Addr} {i : Nat} {kvs : List (Key × D)} (r : Rel cf R Hs env σ H F wf) (hk : cf.kd i = .M) (h : env[i]? = some (some (.dic kvs))) : ∃ p kvs', σ[i]? = some (some (.ref p)) ∧ F i = [p] ∧ H p = some (.dK kvs') ∧ kvs'.map (·.1) = kvs.map (·.1) ∧ RpL cf.K true (rs Hs R.H0) (kvs'.map (·.2)) (kvs.map (·.2)) := by
  obtain ⟨v, h1, h2⟩ := r.slot i _ h
  rw [hk] at h2
  obtain ⟨h2, h3, h4⟩ := h2
  generalize hF : F i = L at h2 h3 h4
  generalize e : D.dic kvs = d at h2 h3
  cases h2 with
  | leaf _ => subst e; cases h3 rfl
  | dic h5 l h6 =>
    cases e
    rename_i p F' ks vs ds
    have e : F' = [] := by
      rw [List.length_cons] at h4
      exact List.length_eq_zero_iff.mp (by omega)
    subst e
    have h7 := h6.leafs rfl
    have l2 : ks.length = ds.length := l.trans h7.length
    refine ⟨p, _, h1, rfl, h5, ?_, ?_⟩
    · rw [List.map_fst_zip (by omega), List.map_fst_zip (by omega)]
    · rw [List.map_snd_zip (by omega), List.map_snd_zip (by omega)]; exact h7
  | _ => cases e
theorem own_dit {R : Rs} {Hs : Hp} {env : PEnv} {σ : L2.St} {H : Hp} {F : Nat → List Addr} {wf : List Addr} {i : Nat} {kvs : List (List Key × D)} (r : Rel cf R Hs env σ H F wf) (hk : cf.kd i = .M) (h : env[i]? = some (some (.dit kvs))) : ∃ p kvs', σ[i]? = some (some (.ref p)) ∧ F i = [p] ∧ H p = some (.dT kvs') ∧ kvs'.map (·.1) = kvs.map (·.1) ∧ RpL cf.K true (rs Hs R.H0) (kvs'.map (·.2)) (kvs.map (·.2)) := by
  obtain ⟨v, h1, h2⟩ := r.slot i _ h
  rw [hk] at h2
  obtain ⟨h2, h3, h4⟩ := h2
  generalize hF : F i = L at h2 h3 h4
  generalize e : D.dit kvs = d at h2 h3
  cases h2 with
  | leaf _ => subst e; cases h3 rfl
  | dit h5 l h6 =>
    cases e
    rename_i p F' ks vs ds
    have e : F' = [] := by
      rw [List.length_cons] at h4
      exact List.length_eq_zero_iff.mp (by omega)
    subst e
    have h7 := h6.leafs rfl
    have l2 : ks.length = ds.length := l.trans h7.length
    refine ⟨p, _, h1, rfl, h5, ?_, ?_⟩
    · rw [List.map_fst_zip (by omega), List.map_fst_zip (by omega)]
    · rw [List.map_snd_zip (by omega), List.map_snd_zip (by omega)]; exact h7
  | _ => cases e
theorem Own.dic_mk {K : PySem.W.Frag} {Hn H : Hp} {p : Addr} {kvs' : List (Key × V)} {kvs : List (Key × D)} (h : H p = some (.dK kvs')) (h1 : kvs'.map (·.1) = kvs.map (·.1)) (h2 : RpL K true Hn (kvs'.map (·.2)) (kvs.map (·.2))) : Own K Hn H [p] (.ref p) (.dic kvs) := by
  have := Own.dic (K := K) (Hn := Hn) (H := H) (p := p) (F := []) (ks := kvs.map (·.1)) (vs := kvs'.map (·.2)) (ds := kvs.map (·.2)) (by rw [← h1, zip_fs]; exact h) (by rw [← h1, List.length_map, List.length_map]) (ownL_of h2)
  rw [zip_fs] at this
  exact this
theorem Own.dit_mk {K : PySem.W.Frag} {Hn H : Hp} {p : Addr} {kvs' : List (List Key × V)} {kvs : List (List Key × D)} (h : H p = some (.dT kvs')) (h1 : kvs'.map (·.1) = kvs.map (·.1)) (h2 : RpL K true Hn (kvs'.map (·.2)) (kvs.map (·.2))) : Own K Hn H [p] (.ref p) (.dit kvs) := by
  have := Own.dit (K := K) (Hn := Hn) (H := H) (p := p) (F := []) (ks := kvs.map (·.1)) (vs := kvs'.map (·.2)) (ds := kvs.map (·.2)) (by rw [← h1, zip_fs]; exact h) (by rw [← h1, List.length_map, List.length_map]) (ownL_of h2)
  rw [zip_fs] at this
  exact this
theorem len_of_keys {α β γ : Type} {a : List (α × β)} {b : List (α × γ)} (h : a.map (·.1) = b.map (·.1)) : a.length = b.length := by
  have := congrArg List.length h
  rw [List.length_map, List.length_map] at this
  exact this
theorem own_root {R : Rs} {Hs : Hp} {env : PEnv} {σ : L2.St} {H : Hp} {F : Nat → List Addr} {wf : List Addr} {i : Nat} {d : D} (r : Rel cf R Hs env σ H F wf) (hk : cf.kd i = .M) (h : dicAt i env = some d) : ∃ p, σ[i]? = some (some (.ref p)) := by
  obtain ⟨h1, h2⟩ := dicAt_some h
  cases d with
  | dic kvs => obtain ⟨p, _, q, _⟩ := own_dic r hk h1; exact ⟨p, q⟩
  | dit kvs => obtain ⟨p, _, q, _⟩ := own_dit r hk h1; exact ⟨p, q⟩
  | _ => cases h2
theorem ss_dput {i : Nat} {o ix e : Expr} {te ti : TE} {f fi : M D} {spos pos : Pos} (hu : X.A.units + 64 < cLine) (po : PE X o (tVar i)) (hk : cf.kd i = .M) (h : SE X cf W .N n e te f) (hi : SE X cf W c n1 ix ti fi)
    (hs : swapsWith e (some (.Subscript o ix spos)) pos.line X.env = pure false := by rfl) : SS X cf W (.Assign [.Subscript o ix spos] e pos) (sDP i f fi) := by
  refine ⟨_, ps_dput (by omega) po hi.p h.p hs, fun R Hs env σ H F wf r D hp => ?_⟩
  refine h.s.bind r hp fun d env1 v Hs1 H1 s1 r1 p1 _ hp => ?_
  cases q0 : dicAt i env1 with
  | none => simp only [q0] at hp; exact hp.elim
  | some ds0 =>
    simp only [q0] at hp
    obtain ⟨p0, a1⟩ := own_root r1 hk q0
    refine ⟨.ref p0, a1, ?_⟩
    refine hi.s.bind r1 (Post.mono s1.ex hp) fun k env2 vk Hs2 H2 s2 r2 p2 _ hp => ?_
    cases q : dicAt i env2 with
    | none => simp only [q] at hp; exact hp.elim
    | some m =>
      simp only [q] at hp
      obtain ⟨qe, qd⟩ := dicAt_some q
      cases qm : dPut m k d with
      | none => simp only [qm] at hp; exact hp.elim
      | some m' =>
        simp only [qm] at hp
        unfold dPut at qm
        split at qm
        · split at qm
          · rename_i kk q1
            split at qm
            · rename_i hl
              cases qm
              obtain ⟨p, kvs', h1, h2, h3, h4, h5⟩ := own_dic r2 hk qe
              have ep : p = p0 := by rw [h1] at a1; cases a1; rfl
              subst ep
              refine ⟨p, _, rfl, .inl ⟨kvs', kk, h3, keyD_v p2 q1, by rw [len_of_keys h4]; exact lim_lt hl, rfl⟩, ?_⟩
              obtain ⟨k1, k2⟩ := put_rp (k := kk) (p1.mono (rs_mono s2.ex)) h4 h5
              exact hp Hs2 σ _ F wf s2.ex (r2.mut (i := i) (p := p) (v := .ref p) (d0 := .dic _) (by rw [h2]; exact List.mem_cons_self) qe h1 (by
                rw [hk, h2]
                exact ⟨Own.dic_mk upd_same k1 k2, fun z => (by cases z), Nat.le_refl _⟩))
            · cases qm
          · cases qm
        · split at qm
          · rename_i kk q1
            split at qm
            · rename_i hl
              cases qm
              obtain ⟨p, kvs', h1, h2, h3, h4, h5⟩ := own_dit r2 hk qe
              have ep : p = p0 := by rw [h1] at a1; cases a1; rfl
              subst ep
              obtain ⟨b, ys, rfl, t1, t2⟩ := p2.tup_inv
              have t1 : rg c R.H0 Hs2 H1 H2 wf b = some (.tup ys) := t1
              rw [keysD_v t2 q1] at t1
              refine ⟨p, _, rfl, .inr ⟨kvs', kk, b, h3, rfl, rg_sub r2.exs _ _ t1, by rw [len_of_keys h4]; exact lim_lt hl, rfl⟩, ?_⟩
              obtain ⟨k1, k2⟩ := put_rp (k := kk) (p1.mono (rs_mono s2.ex)) h4 h5
              exact hp Hs2 σ _ F wf s2.ex (r2.mut (i := i) (p := p) (v := .ref p) (d0 := .dit _) (by rw [h2]; exact List.mem_cons_self) qe h1 (by
                rw [hk, h2]
                exact ⟨Own.dit_mk upd_same k1 k2, fun z => (by cases z), Nat.le_refl _⟩))
            · cases qm
          · cases qm
        · cases qm
def gTup1 : List D → Option D
  | [.lst ds] => some (.tup ds)
  | _ => none
end
section
variable {e : PEnv} {fo fk fx fv : M D} {i : Nat} {ds : List D} {kvs : List (Key × D)} {kts : List (List Key × D)}
@[simp] theorem r_eDGet1 : eDGet1 fo fk e = rb (fo e) fun d e => ro (isDic d) fun _ => rb (fk e) fun k e => lift ((dLook d k).map fun o => o.getD .non) e := by
  show rb (fo e) _ = _
  congr 1; funext d e
  show rb (lift (isDic d) e) _ = _
  cases isDic d <;> rfl
@[simp] theorem r_eDGet2 : eDGet2 fo fk fx e = rb (fo e) fun d e => ro (isDic d) fun _ => rb (fk e) fun k e => rb (fx e) fun x e => lift ((dLook d k).map fun o => o.getD x) e := by
  show rb (fo e) _ = _
  congr 1; funext d e
  show rb (lift (isDic d) e) _ = _
  cases isDic d <;> rfl
@[simp] theorem r_sSetD : sSetD i fv e = rb (fv e) fun d e => if dok d then .ok .nx (e.set i (some d)) else .stuck := by
  show rb (fv e) _ = _
  congr 1; funext d e; cases h : dok d <;> simp [h]
def dicO (o : Option (Option D)) : Option D := match o with
  | some (some d) => if (isDic d).isSome then some d else none
  | _ => none
@[simp] theorem dicO_k : dicO (some (some (.dic kvs))) = some (.dic kvs) := (rfl)
@[simp] theorem dicO_t : dicO (some (some (.dit kts))) = some (.dit kts) := (rfl)
@[simp] theorem r_sDP : sDP i fv fk e = rb (fv e) fun d e => ro (dicO (e[i]?)) fun _ => rb (fk e) fun k e => ro (dicO (e[i]?)) fun m => ro (dPut m k d) fun m' => .ok .nx (e.set i (some m')) := by
  show rb (fv e) _ = _
  congr 1; funext d e
  show _ = ro (dicAt i e) _
  cases dicAt i e with
  | none => rfl
  | some m =>
    show rb (fk e) _ = _
    simp only [ro_some]
    congr 1; funext k e
    show _ = ro (dicAt i e) _
    cases dicAt i e with
    | none => rfl
    | some m => simp only [ro_some]; cases dPut m k d <;> rfl
@[simp] theorem isDic_k : isDic (.dic kvs) = some () := (rfl)
@[simp] theorem isDic_t : isDic (.dit kts) = some () := (rfl)
@[simp] theorem gDNewK_v : gDNewK ds = some (.dic []) := (rfl)
@[simp] theorem gDNewT_v : gDNewT ds = some (.dit []) := (rfl)
@[simp] theorem dok_k : dok (.dic []) = true := (rfl)
@[simp] theorem dok_t : dok (.dit []) = true := (rfl)
@[simp] theorem gTup1_l : gTup1 [.lst ds] = some (.tup ds) := (rfl)
@[simp] theorem keyD_i {j : Int} : keyD (.int j) = some (.inl j) := (rfl)
@[simp] theorem keyD_s {x : Str} : keyD (.str x) = some (.inr x) := (rfl)
@[simp] theorem dLook_k {y : D} : dLook (.dic kvs) y = (keyD y).map fun k => dval kvs k := (rfl)
@[simp] theorem dLook_t : dLook (.dit kts) (.tup ds) = (keysD ds).map fun k => dval kts k := (rfl)
@[simp] theorem gSortSet_l : gSortSet [.lst ds] = match asInts ds with | some ns => if ns.length ≤ 4000 then some (.lst ((dsI ns).map .int)) else none | none => none := (rfl)
@[simp] theorem gSorted_l : gSorted [.lst ds] = (asInts ds).map fun ns => .lst ((srtI ns).map .int) := (rfl)
@[simp] theorem gSorted_k : gSorted [.dic kvs] = (keysI kvs).map fun ns => .lst ((srtI ns).map .int) := (rfl)
end
end MV
namespace MV
open PySem PySem.Spec PyProof.Rows L2
def eChain (g g' : D → D → Option D) (fa fb fc : M D) : M D := bnd fa fun x => bnd fb fun y => bnd (lift (g x y)) fun z => bnd (lift (asB z)) fun k => if k then bnd fc fun w => lift (g' y w) else ret (.bl false)
section
variable {X : Cx} {cf : Cf} {W : WX} {ca cb cc : Cls} {n1 n2 n3 : Bool} {a b c : Expr} {ta tb tc : TE} {fa fb fc : M D} {pos : Pos} {g g' : Int → Int → Bool}
theorem sd_chain (ha : Sd cf W ca n1 ta fa) (hb : Sd cf W cb n2 tb fb) (hc : Sd cf W cc n3 tc fc) : Sd cf W .V true (tChain (rI0 fun i j => .bl (g i j)) (rI0 fun i j => .bl (g' i j)) ta tb tc) (eChain (gI2 fun i j => some (.bl (g i j))) (gI2 fun i j => some (.bl (g' i j))) fa fb fc) := by
  refine Sd.mk (fun R Hs env σ H F wf r d env' q Q k => ?_) (fun R Hs env σ H F wf r x env' q Q k => ?_)
  · obtain ⟨d1, env1, q1, qa⟩ := bnd_ok q
    obtain ⟨d2, env2, q2, qb⟩ := bnd_ok qa
    obtain ⟨d3, env3, q3, qc⟩ := bnd_ok qb
    obtain ⟨q3, e3⟩ := lift_ok q3
    obtain ⟨i, j, rfl, rfl, q3⟩ := gI2_some q3
    cases q3
    obtain ⟨b1, env4, q4, qd⟩ := bnd_ok qc
    obtain ⟨q4, e4⟩ := lift_ok q4
    cases q4
    subst e4 e3
    refine ha.ok r q1 fun v1 Hs1 H1 s1 r1 p1 _ => hb.ok r1 q2 fun v2 Hs2 H2 s2 r2 p2 _ => ⟨i, j, p1.int_inv, p2.int_inv, g i j, rfl, ?_⟩
    cases hg : g i j with
    | false =>
      rw [hg] at qd
      cases qd
      exact k _ Hs2 H2 (s1.trans s2) r2 (.bl _) fun _ _ => .bl _
    | true =>
      rw [hg] at qd
      obtain ⟨d5, env5, q5, q6⟩ := bnd_ok qd
      obtain ⟨q7, e6⟩ := lift_ok q6
      subst e6
      obtain ⟨i2, j2, e7, rfl, q8⟩ := gI2_some q7
      cases e7
      cases q8
      exact hc.ok r2 q5 fun v3 Hs3 H3 s3 r3 p3 _ => ⟨_, _, p2.int_inv, p3.int_inv, k _ Hs3 H3 ((s1.trans s2).trans s3) r3 (.bl _) fun _ _ => .bl _⟩
  · rcases bnd_ex q with q | ⟨d1, env1, q1, qa⟩
    · exact ha.exn r q fun Hs' H' s' r' => k Hs' H' s' r'
    · rcases bnd_ex qa with q | ⟨d2, env2, q2, qb⟩
      · exact ha.ok r q1 fun v1 Hs1 H1 s1 r1 p1 _ => hb.exn r1 q fun Hs2 H2 s2 r2 => k Hs2 H2 (s1.trans s2) r2
      · rcases bnd_ex qb with q | ⟨d3, env3, q3, qc⟩
        · exact (lift_ex q).elim
        · obtain ⟨q3, e3⟩ := lift_ok q3
          obtain ⟨i, j, rfl, rfl, q3⟩ := gI2_some q3
          cases q3
          rcases bnd_ex qc with q | ⟨b1, env4, q4, qd⟩
          · exact (lift_ex q).elim
          · obtain ⟨q4, e4⟩ := lift_ok q4
            cases q4
            subst e4 e3
            refine ha.ok r q1 fun v1 Hs1 H1 s1 r1 p1 _ => hb.ok r1 q2 fun v2 Hs2 H2 s2 r2 p2 _ => ⟨i, j, p1.int_inv, p2.int_inv, g i j, rfl, ?_⟩
            cases hg : g i j with
            | false => rw [hg] at qd; cases qd
            | true =>
              rw [hg] at qd
              rcases bnd_ex qd with q | ⟨d5, env5, q5, q6⟩
              · exact hc.exn r2 q fun Hs3 H3 s3 r3 => k Hs3 H3 ((s1.trans s2).trans s3) r3
              · exact (lift_ex q6).elim
theorem st_chain {op op' : CmpOp} (ho : OpR X (compareOp op) (rI0 fun i j => .bl (g i j))) (ho' : OpR X (compareOp op') (rI0 fun i j => .bl (g' i j))) (ha : SE X cf W ca n1 a ta fa) (hb : SE X cf W cb n2 b tb fb) (hc : SE X cf W cc n3 c tc fc)
    (hm : lastMarks [op, op'] [b, c] = false := by with_unfolding_all rfl) : ST X cf W (.Compare a [op, op'] [b, c] pos) (tTest (tChain (rI0 fun i j => .bl (g i j)) (rI0 fun i j => .bl (g' i j)) ta tb tc)) (tB (eChain (gI2 fun i j => some (.bl (g i j))) (gI2 fun i j => some (.bl (g' i j))) fa fb fc)) :=
  ⟨pt_chain ho ho' ha.p hb.p hc.p hm, sdt_test (sd_chain ha.s hb.s hc.s)⟩
end
section
variable {e : PEnv} {fa fb fc : M D} {g g' : D → D → Option D}
@[simp] theorem r_eChain : eChain g g' fa fb fc e = rb (fa e) fun x e => rb (fb e) fun y e => rb (lift (g x y) e) fun z e => rb (lift (asB z) e) fun k e => if k then rb (fc e) fun w e => lift (g' y w) e else .ok (.bl false) e := by
  show rb (fa e) _ = _
  congr 1; funext x e
  show rb (fb e) _ = _
  congr 1; funext y e
  show rb _ _ = _
  congr 1; funext z e
  show rb _ _ = _
  congr 1; funext k e; cases k <;> rfl
end
end MV
namespace MV
open PySem PySem.Spec PyProof.Rows L2
section
variable {X : Cx} {cf : Cf} {W : WX} {c : Cls} {n n1 n2 : Bool}
def sSetML (i : Nat) (fa : M (List D)) : M Fl := bnd fa fun ds => fun e => if ds.length ≤ LIM then .ok .nx (e.set i (some (.lst ds))) else .stuck
def sSetMC (i : Nat) (fa : M (List D)) : M Fl := fun e => match lstAt i e with
  | none => .stuck
  | some _ => bnd fa (fun ds => fun e => match lstAt i e with
    | some ds0 => if ds0.length + ds.length ≤ LIM then .ok .nx (e.set i (some (.lst (ds0 ++ ds)))) else .stuck
    | none => .stuck) e
theorem SdA.bind {ta : TA} {fa : M (List D)} {g : List D → M Fl} {R : Rs} {Hs : Hp} {env : PEnv} {σ : L2.St} {H : Hp} {F : Nat → List Addr} {wf : List Addr} {D : Ends} {Q : List V → Hp → Prop} (s : SdA cf W c ta fa) (r : Rel cf R Hs env σ H F wf) (hp : Post cf W R Hs D (bnd fa g env))
    (hx : ∀ x σ' H', W x none σ' H' → W x none σ' H')
    (k : ∀ ds env1 vs Hs1 H1, Stp cf wf env Hs H env1 Hs1 H1 → Rel cf R Hs1 env1 σ H1 F wf → RpL cf.K true (rg c R.H0 Hs1 H H1 wf) vs ds → Post cf W R Hs D (g ds env1) → Q vs H1) : ta σ H Q := by
  cases q : fa env with
  | ok ds env1 => exact s.ok r q fun vs Hs1 H1 s1 r1 p1 => k ds env1 vs Hs1 H1 s1 r1 p1 (by rw [bnd_of_ok q] at hp; exact hp)
  | ex x env1 => exact s.exn r q fun Hs1 H1 s1 r1 => by rw [bnd_of_ex q] at hp; exact hp Hs1 σ H1 F wf s1.ex r1
  | stuck => rw [bnd_of_stuck q] at hp; exact hp.elim
end
section
variable {P : Program} {w : World} {K : PySem.W.Frag} {mg : Str → Option Value} {base : Heap}
end
section
variable {e : PEnv} {i : Nat} {r : M (List D)}
@[simp] theorem r_sSetML : sSetML i r e = rb (r e) fun ds e => if ds.length ≤ LIM then .ok .nx (e.set i (some (.lst ds))) else .stuck := (rfl)
@[simp] theorem r_sSetMC : sSetMC i r e = ro (lstO (e[i]?)) fun _ => rb (r e) fun ds e => ro (lstO (e[i]?)) fun ds0 => if ds0.length + ds.length ≤ LIM then .ok .nx (e.set i (some (.lst (ds0 ++ ds)))) else .stuck := by
  unfold sSetMC
  show _ = ro (lstAt i e) _
  cases lstAt i e with
  | none => rfl
  | some ds =>
    show rb (r e) _ = _
    simp only [ro_some]
    congr 1; funext d e
    show _ = ro (lstAt i e) _
    cases lstAt i e <;> rfl
end
end MV
namespace MV
open PySem L2
open PySem.W (alike alikeAll dataLt minD AlikeAll AllAlike Sortable dataLe EachIs)
def D.P (d : D) : PyData := d.toP.getD .none
mutual
theorem toP_inj : ∀ {a b : D} {p : PyData}, a.toP = some p → b.toP = some p → a = b
  | .non, b, p, h, h2 => by cases h; cases b <;> first | rfl | (simp [D.toP] at h2)
  | .bl x, b, p, h, h2 => by cases h; cases b <;> first | (simp [D.toP] at h2; subst h2; rfl) | (simp [D.toP] at h2)
  | .int x, b, p, h, h2 => by cases h; cases b <;> first | (simp [D.toP] at h2; subst h2; rfl) | (simp [D.toP] at h2)
  | .str x, b, p, h, h2 => by cases h; cases b <;> first | (simp [D.toP] at h2; subst h2; rfl) | (simp [D.toP] at h2)
  | .lst xs, b, p, h, h2 => by
    rw [D.toP, Option.map_eq_some_iff] at h
    obtain ⟨ps, h, rfl⟩ := h
    cases b with
    | lst ys =>
      rw [D.toP, Option.map_eq_some_iff] at h2
      obtain ⟨qs, h2, e⟩ := h2
      cases e
      rw [toPs_inj h h2]
    | _ => simp [D.toP] at h2
  | .tup xs, b, p, h, h2 => by
    rw [D.toP, Option.map_eq_some_iff] at h
    obtain ⟨ps, h, rfl⟩ := h
    cases b with
    | tup ys =>
      rw [D.toP, Option.map_eq_some_iff] at h2
      obtain ⟨qs, h2, e⟩ := h2
      cases e
      rw [toPs_inj h h2]
    | _ => simp [D.toP] at h2
  | .dic _, b, p, h, h2 => by cases h
  | .dit _, b, p, h, h2 => by cases h
  | .exc _, b, p, h, h2 => by cases h
theorem toPs_inj : ∀ {a b : List D} {p : List PyData}, toPs a = some p → toPs b = some p → a = b
  | [], b, p, h, h2 => by
    cases h
    cases b with
    | nil => rfl
    | cons y ys => rw [toPs] at h2; split at h2 <;> cases h2
  | x :: xs, b, p, h, h2 => by
    rw [toPs] at h
    split at h
    · rename_i p1 p2 e1 e2
      cases h
      cases b with
      | nil => cases h2
      | cons y ys =>
        rw [toPs] at h2
        split at h2
        · rename_i q1 q2 f1 f2
          cases h2
          rw [toP_inj e1 f1, toPs_inj e2 f2]
        · cases h2
    · cases h
end
def okO (l : List D) : Bool := l.all fun a => a.toP.isSome && decide (a.P.depth ≤ 60) && (match a with | .non => false | _ => true) && l.all fun b => alike a.P b.P
def ltD (a b : D) : Bool := dataLt a.P b.P
section
variable {X : Cx} {cf : Cf} {W : WX} {c ca cb : Cls} {n n1 n2 : Bool} {a b : Expr} {ta tb : TE} {fa fb : M D} {pos : Pos}
end
def mnD (d : D) (ds : List D) : D := ds.foldl (fun a y => if ltD y a then y else a) d
def gMinD : List D → Option D
  | [.lst (d :: ds)] => if okO (d :: ds) then some (mnD d ds) else none
  | _ => none
def gMinX : List D → Option D
  | [.lst []] => some .non
  | x => gMinD x
section
variable {X : Cx} {cf : Cf} {W : WX} {c ca cb : Cls} {n n1 n2 : Bool} {e : Expr} {es : List Expr} {tA : TA} {fA : M (List D)} {p pos kpos npos : Pos} {j : Nat}
end
end MV
namespace MV
open PySem PySem.Spec PyProof.Rows L2
section
variable {X : Cx} {cf : Cf} {W : WX} {c : Cls} {n n1 n2 : Bool}
structure ItOkN (K : PySem.W.Frag) (H0 : Hp) (J : It) (G1 Hs1 : Hp) (ds : List D) : Prop where
  go : ∀ i H, i < ds.length → Ex G1 H → J.go i H
  stop : ∀ H, Ex G1 H → J.stop ds.length H
  yld : ∀ i H x H', Ex G1 H → i < ds.length → J.yld i H x H' → Ex H H' ∧ ∀ G, Ex Hs1 G → Ex G H → ∃ d, ds[i]? = some d ∧ Rp K true (rs G H0) x d
def SdIN (cf : Cf) (W : WX) (wi : TI) (fi : M (List D)) : Prop :=
  ∀ (R : Rs) (Hs : Hp) (env : PEnv) (σ : L2.St) (H : Hp) (F : Nat → List Addr) (wf : List Addr), Rel cf R Hs env σ H F wf → ∀ Rk : It → Hp → Prop,
    match fi env with
    | .ok ds env' => (∀ J G1 Hs' H', Stp cf wf env Hs H env' Hs' H' → Rel cf R Hs' env' σ H' F wf → Ex G1 (rm H' wf) → ItOkN cf.K R.H0 J G1 Hs' ds → Rk J H') → wi σ H Rk
    | .ex x env' => (∀ Hs' H', Stp cf wf env Hs H env' Hs' H' → Rel cf R Hs' env' σ H' F wf → W (cf.cv x) none σ H') → wi σ H Rk
    | .stuck => True
structure SIN (X : Cx) (cf : Cf) (W : WX) (tg iter : Expr) (wi : TI) (fi : M (List D)) : Prop where
  p : PI X tg iter wi
  s : SdIN cf W wi fi
def SdGN (cf : Cf) (is : List Nat) (g : TG) (tg : D → M Unit) : Prop :=
  ∀ (R : Rs) (Hs : Hp) (env : PEnv) (σ : L2.St) (H : Hp) (F : Nat → List Addr) (wf : List Addr), Rel cf R Hs env σ H F wf → ∀ (d : D) (v : V), Rp cf.K true (rs Hs R.H0) v d → ∀ Q : L2.St → Hp → Prop,
    match tg d env with
    | .ok _ env' => (∀ σ', Rel cf R Hs env' σ' H F wf → wipe σ' is = wipe σ is → (∀ j, j ∉ is → env'[j]? = env[j]?) → Q σ' H) → g v σ H Q
    | .ex _ _ => False
    | .stuck => True
structure SGtN (X : Cx) (cf : Cf) (is : List Nat) (tg : Expr) (g : TG) (f : D → M Unit) : Prop where
  p : PG X tg g
  s : SdGN cf is g f
end
section
variable {X : Cx} {cf : Cf} {W : WX} {ca cb : Cls} {n1 n2 : Bool} {a b : Expr} {ta tb : TE} {fa fb : M D} {pos : Pos}
end
end MV
namespace MV
open PySem PySem.Spec PyProof.Rows L2
section
variable {K : PySem.W.Frag} {Hn H : Hp}
theorem Own.sc_nil {F : List Addr} {v : V} {d : D} (h : Own K Hn H F v d) (hs : d.sc = true) : F = [] := by
  cases h with
  | leaf _ => rfl
  | lst _ _ => cases hs
  | tup _ _ => cases hs
  | dic _ _ _ => cases hs
  | dit _ _ _ => cases hs
theorem OwnL.init : ∀ {F : List Addr} {vs : List V} {ds : List D} {v : V} {d : D}, OwnL K Hn H F (vs ++ [v]) (ds ++ [d]) → vs.length = ds.length → d.sc = true → OwnL K Hn H F vs ds
  | _, [], [], v, d, h, _, hs => by
    have h : OwnL K Hn H _ [v] [d] := h
    cases h with
    | cons h1 h2 =>
      cases h2
      rw [h1.sc_nil hs]
      exact .nil
  | _, _ :: _, [], v, d, h, hl, _ => by cases hl
  | _, [], _ :: _, v, d, h, hl, _ => by cases hl
  | _, x :: xs, y :: ys, v, d, h, hl, hs => by
    have h : OwnL K Hn H _ (x :: (xs ++ [v])) (y :: (ys ++ [d])) := h
    cases h with
    | cons h1 h2 => exact .cons h1 (OwnL.init h2 (by simpa using hl) hs)
theorem OwnL.set : ∀ {F : List Addr} {vs : List V} {ds : List D} (j : Nat) {v : V} {d d0 : D}, OwnL K Hn H F vs ds → ds[j]? = some d0 → d0.sc = true → Rp K true Hn v d → OwnL K Hn H F (vs.set j v) (ds.set j d)
  | _, _, _, j, v, d, d0, .nil, h, _, _ => by simp at h
  | _, _, _, 0, v, d, d0, .cons h1 h2, h, hs, r => by
    simp at h
    subst h
    have e := h1.sc_nil hs
    subst e
    exact OwnL.cons (F := []) (.leaf r) h2
  | _, _, _, j + 1, v, d, d0, .cons h1 h2, h, hs, r => .cons h1 (OwnL.set j h2 (by simpa using h) hs r)
end
section
variable {X : Cx} {cf : Cf} {W : WX} {c : Cls} {n n1 n2 : Bool}
def PostQ (cf : Cf) (W : WX) (R : Rs) (Hs : Hp) (env : PEnv) (σ : L2.St) (H : Hp) (F : Nat → List Addr) (wf : List Addr) (D : Ends) : Res Fl → Prop
  | .ok .nx env' => ∀ Hs' H', Stp cf wf env Hs H env' Hs' H' → Rel cf R Hs' env' σ H' F wf → D.nx σ H'
  | .ok (.rt d) env' => ∀ v Hs' H', Stp cf wf env Hs H env' Hs' H' → Rel cf R Hs' env' σ H' F wf → Rp cf.K true (rs (rm H' wf) R.H0) v d → D.rt v H'
  | .ok .bk env' => ∀ Hs' H', Stp cf wf env Hs H env' Hs' H' → Rel cf R Hs' env' σ H' F wf → D.bk σ H'
  | .ok .ct env' => ∀ Hs' H', Stp cf wf env Hs H env' Hs' H' → Rel cf R Hs' env' σ H' F wf → D.ct σ H'
  | .ex x env' => ∀ Hs' H', Stp cf wf env Hs H env' Hs' H' → Rel cf R Hs' env' σ H' F wf → W (cf.cv x) none σ H'
  | .stuck => False
theorem PostQ.step {R : Rs} {Hs Hs1 : Hp} {env env1 : PEnv} {σ : L2.St} {H H1 : Hp} {F : Nat → List Addr} {wf : List Addr} {D : Ends} {x : Res Fl} (s : Stp cf wf env Hs H env1 Hs1 H1) (h : PostQ cf W R Hs env σ H F wf D x) : PostQ cf W R Hs1 env1 σ H1 F wf D x := by
  cases x with
  | ok f env' =>
    cases f with
    | nx => exact fun Hs' H' s' r' => h Hs' H' (s.trans s') r'
    | rt d => exact fun v Hs' H' s' r' p => h v Hs' H' (s.trans s') r' p
    | bk => exact fun Hs' H' s' r' => h Hs' H' (s.trans s') r'
    | ct => exact fun Hs' H' s' r' => h Hs' H' (s.trans s') r'
  | ex c env' => exact fun Hs' H' s' r' => h Hs' H' (s.trans s') r'
  | stuck => exact h
end
end MV
namespace MV
open PySem PySem.Spec PyProof.Rows L2
structure FnQ (P : Program) (w : World) (K : PySem.W.Frag) (mg : Str → Option Value) (base : Heap) (k : Nat) (f : Addr) (fd : FuncData) (ps : List Str) (sp : Sp) : Prop where
  len : ∀ vs H Q E, sp vs H Q E → vs.length = ps.length
  run : ∀ (A : Around) (outer : List Env) (s : Shared) (H : Hp) (args : Args) (us : List Value) (vs : List V) (Q : VK) (E : XK), L2H.RoomH k A → Env0 P w K mg base A outer s H →
    BindsTo s fd args (ps.zip us) → Vals vs us → sp vs H Q E → codeAny (model P w) A (.call (.ref f) args) (CR (L2N.CX P w) outer P w H s Q E) s
section
variable {P : Program} {w : World} {K : PySem.W.Frag} {mg : Str → Option Value} {base : Heap}
end
section
variable {X : Cx} {cf : Cf} {W : WX}
end
section
variable {X : Cx} {x n : Str} {c : Value} {i : Nat} {body suite : List Stmt} {b₀ : Stmt} {np pos pos' : Pos} {tb : WX → TS} {ts : Addr → Value → TS} {Wo : WX}
end
section
variable {X : Cx} {cf : Cf} {W : WX}
end
end MV
namespace MV
open PySem PySem.Spec PyProof.Rows L2
section
open Classical
variable {cf : Cf} {R : Rs} {Hs H : Hp} {env : PEnv} {σ : L2.St} {F : Nat → List Addr} {wf : List Addr}
def Held (cf : Cf) (F : Nat → List Addr) (a : Addr) : Prop := ∃ i, cf.kd i ≠ .W ∧ a ∈ F i
theorem Held.un (r : Rel cf R Hs env σ H F wf) {a : Addr} (h : Held cf F a) : Hs a = none := by obtain ⟨i, _, m⟩ := h; exact r.uns i a m
theorem Held.nw (r : Rel cf R Hs env σ H F wf) {a : Addr} (h : Held cf F a) : a ∉ wf := by obtain ⟨i, k, m⟩ := h; exact r.volb i k a m
theorem Held.dom (r : Rel cf R Hs env σ H F wf) {a : Addr} (h : Held cf F a) : H a ≠ none := by obtain ⟨i, k, m⟩ := h; exact r.fdom i a m
end
section
variable {X : Cx} {cf : Cf} {W : WX} {a : Expr} {ta : TE} {fa : M D} {n : Bool}
end
end MV
namespace MV
open PySem PySem.Spec PyProof.Rows L2
open PySem.W (minD)
def gIxL : D → D → Option D
  | .lst ds, .int i => L2.atI ds i
  | _, _ => none
@[simp] theorem gIxL_l {ds : List D} {i : Int} : gIxL (.lst ds) (.int i) = L2.atI ds i := (rfl)
section
variable {X : Cx} {cf : Cf} {W : WX} {c : Cls} {n n1 : Bool}
def gMinXL : List D → Option D
  | [.lst ds] => gMinX [.lst ds]
  | _ => none
@[simp] theorem gMinXL_l {ds : List D} : gMinXL [.lst ds] = gMinX [.lst ds] := (rfl)
section
variable {e : Expr} {p pos kpos npos : Pos} {j i : Nat}
end
section
variable {R : Rs} {Hs H : Hp} {env : PEnv} {σ : L2.St} {F : Nat → List Addr} {wf : List Addr}
end
end
end MV
namespace MV
open PySem PySem.Spec PyProof.Rows L2
section
variable {X : Cx} {cf : Cf} {W : WX} {c : Cls} {n n1 : Bool}
def SdGsN (cf : Cf) (is js : List Nat) (g : TGs) : Prop :=
  ∀ (R : Rs) (Hs : Hp) (env : PEnv) (σ : L2.St) (H : Hp) (F : Nat → List Addr) (wf : List Addr), Rel cf R Hs env σ H F wf → ∀ (ds : List D) (vs : List V), RpL cf.K true (rs Hs R.H0) vs ds → ∀ Q : L2.St → Hp → Prop, ∀ env', setAll js ds env = some env' →
    (∀ σ', Rel cf R Hs env' σ' H F wf → wipe σ' is = wipe σ is → (∀ j, j ∉ is → env'[j]? = env[j]?) → Q σ' H) → g vs σ H Q
structure SGtsN (X : Cx) (cf : Cf) (is js : List Nat) (ts : List Expr) (g : TGs) : Prop where
  p : PGs X ts g
  s : SdGsN cf is js g
end
end MV
namespace MV
open PySem PySem.Spec PyProof.Rows L2
def gZpA : List D → Option (List D)
  | [.lst as, .lst bs] => some (zipD as bs)
  | [.tup as, .tup bs] => some (zipD as bs)
  | _ => none
@[simp] theorem gZpA_l {a b : List D} : gZpA [.lst a, .lst b] = some (zipD a b) := (rfl)
@[simp] theorem gZpA_t {a b : List D} : gZpA [.tup a, .tup b] = some (zipD a b) := (rfl)
section
variable {X : Cx} {cf : Cf} {W : WX} {c : Cls} {n n1 : Bool}
end
end MV
namespace MV
open PySem PySem.Spec PyProof.Rows L2
def sClr (i : Nat) : M Fl := fun e => match lstAt i e with
  | some _ => .ok .nx (e.set i (some (.lst [])))
  | none => .stuck
section
variable {X : Cx} {cf : Cf} {W : WX} {c : Cls} {n n1 : Bool}
@[simp] theorem r_sClr {i : Nat} {e : PEnv} : sClr i e = ro (lstO (e[i]?)) fun _ => .ok .nx (e.set i (some (.lst []))) := by
  unfold sClr
  show _ = ro (lstAt i e) _
  cases lstAt i e <;> rfl
end
end MV
namespace MV
open PySem PySem.Spec PyProof.Rows L2
def Cf.lock (cf : Cf) (i : Nat) : Cf := ⟨cf.K, fun j => if j = i then .Q else cf.kd j, cf.cv⟩
theorem lock_i {cf : Cf} {i : Nat} : (cf.lock i).kd i = .Q := by show (if i = i then Kd.Q else cf.kd i) = .Q; rw [if_pos rfl]
theorem lock_ne {cf : Cf} {i j : Nat} (h : j ≠ i) : (cf.lock i).kd j = cf.kd j := by show (if j = i then Kd.Q else cf.kd j) = _; rw [if_neg h]
def hidF (F : Nat → List Addr) (i : Nat) : Nat → List Addr := fun k => if k = i then [] else F k
theorem hid_mem {F : Nat → List Addr} {i k : Nat} {a : Addr} (m : a ∈ hidF F i k) : k ≠ i ∧ a ∈ F k := by
  unfold hidF at m
  split at m
  · cases m
  · rename_i q; exact ⟨q, m⟩
theorem hid_ne {F : Nat → List Addr} {i k : Nat} (h : k ≠ i) : hidF F i k = F k := by unfold hidF; rw [if_neg h]
section
variable {cf : Cf} {R : Rs} {Hs H : Hp} {env : PEnv} {σ : L2.St} {F : Nat → List Addr} {wf : List Addr} {i : Nat} {p : Addr} {kvs : List (Key × D)} {kvs' : List (Key × V)}
theorem Rel.lock (r : Rel cf R Hs env σ H F wf) (hk : cf.kd i = .M) (hF : F i = [p]) (hp : H p = some (.dK kvs')) (he : env[i]? = some (some (.dic kvs))) (hσ : σ[i]? = some (some (.ref p))) (k1 : kvs'.map (·.1) = kvs.map (·.1)) (k2 : RpL cf.K true (rs Hs R.H0) (kvs'.map (·.2)) (kvs.map (·.2))) (ks : (kvs.map (·.2)).all D.sc = true) (od : Obj) :
    Rel (cf.lock i) R (upd Hs p (.frz od (.dK kvs'))) env σ (upd H p (.frz od (.dK kvs'))) (hidF F i) wf := by
  have hm : p ∈ F i := by rw [hF]; exact List.mem_cons_self
  have un : Hs p = none := r.uns i p hm
  have ex : Ex Hs (upd Hs p (.frz od (.dK kvs'))) := Ex.new un
  have kw : cf.kd i ≠ .W := by rw [hk]; exact fun z => by cases z
  have nep : ∀ {k : Nat} {a : Addr}, k ≠ i → a ∈ F k → a ≠ p := fun {k a} ne m e => by subst e; exact r.dis k i ne a m hm
  refine
    { len := r.len
      exs := fun a o h => by
        by_cases q : a = p
        · subst q; rw [upd_same] at h ⊢; exact h
        · rw [upd_ne q] at h ⊢; exact r.exs a o h
      ex0 := fun a o h n => ex a o (r.ex0 a o h n)
      dom0 := fun a h => by
        by_cases q : a = p
        · subst q; rw [upd_same]; exact fun z => by cases z
        · rw [upd_ne q]; exact r.dom0 a h
      slot := fun j d h => ?_
      nod := fun j => by
        unfold hidF
        split
        · exact List.nodup_nil
        · exact r.nod j
      dis := fun a b n x m m' => r.dis a b n x (hid_mem m).2 (hid_mem m').2
      fdom := fun j a m => by
        obtain ⟨ne, m⟩ := hid_mem m
        rw [upd_ne (nep ne m)]; exact r.fdom j a m
      uns := fun j a m => by
        obtain ⟨ne, m⟩ := hid_mem m
        rw [upd_ne (nep ne m)]; exact r.uns j a m
      new := fun j a m => r.new j a (hid_mem m).2
      volw := fun j k a m => by
        obtain ⟨ne, m⟩ := hid_mem m
        rw [lock_ne ne] at k
        exact r.volw j k a m
      volb := fun j k a m => by
        obtain ⟨ne, m⟩ := hid_mem m
        rw [lock_ne ne] at k
        exact r.volb j k a m
      wdom := fun a m => by
        obtain ⟨h1, h2⟩ := r.wdom a m
        have ne : a ≠ p := fun e => by subst e; exact r.volb i kw a hm m
        exact ⟨by rw [upd_ne ne]; exact h1, by rw [upd_ne ne]; exact h2⟩
      ior := fun q h => by
        obtain ⟨h1, h2, h3, h4⟩ := r.ior q h
        have ne : (0 : Nat) ≠ i := fun e => by subst e; exact kw h3
        exact ⟨h1, by rw [hid_ne ne]; exact h2, by rw [lock_ne ne]; exact h3, h4⟩ }
  by_cases e : j = i
  · subst e
    rw [he] at h
    cases h
    refine ⟨.ref p, hσ, ?_⟩
    rw [lock_i]
    show Rp cf.K false _ (.ref p) (.dic kvs)
    exact Rp.dic_mk (kvs' := kvs') ⟨od, upd_same⟩ k1 (k2.sc_any ks false _)
  · obtain ⟨v, h1, h2⟩ := r.slot j d h
    refine ⟨v, h1, ?_⟩
    rw [lock_ne e, hid_ne e]
    show SlotR cf.K R _ _ (F j) (cf.kd j) v d
    have own : ∀ a ∈ F j, ∀ o, H a = some o → upd H p (.frz od (.dK kvs')) a = some o := fun a m o z => by rw [upd_ne (nep e m)]; exact z
    cases q : cf.kd j with
    | S => rw [q] at h2; exact Rp.mono ex h2
    | Q => rw [q] at h2; exact Rp.mono ex h2
    | P => rw [q] at h2; exact Own.keep (th_mono (rs_mono ex)) h2 own
    | N => rw [q] at h2; exact Rp.mono (rs_mono ex) h2
    | M => rw [q] at h2; exact ⟨Own.keep (rs_mono ex) h2.1 own, h2.2⟩
    | W =>
      rw [q] at h2
      obtain ⟨p', xs, ds, e1, e2, e3, e4, e5⟩ := h2
      exact ⟨p', xs, ds, e1, e2, e3, own p' (by rw [e3]; exact List.mem_cons_self) _ e4, e5⟩
def outH (Hs' : Hp) (p : Addr) : Hp := fun a => if a = p then none else Hs' a
theorem out_p {Hs' : Hp} {p : Addr} : outH Hs' p p = none := by unfold outH; rw [if_pos rfl]
theorem out_ne {Hs' : Hp} {p a : Addr} (h : a ≠ p) : outH Hs' p a = Hs' a := by unfold outH; rw [if_neg h]
theorem stp_unlock {env' : PEnv} {Hs' H' : Hp} {u z : HO} (r : Rel cf R Hs env σ H F wf) (hk : cf.kd i = .M) (hF : F i = [p]) (hp : H p = some u) (s : Stp (cf.lock i) wf env (upd Hs p z) (upd H p z) env' Hs' H') : Stp cf wf env Hs H env' (outH Hs' p) (upd H' p u) := by
  have hm : p ∈ F i := by rw [hF]; exact List.mem_cons_self
  have un : Hs p = none := r.uns i p hm
  have kw : cf.kd i ≠ .W := by rw [hk]; exact fun z => by cases z
  exact
  { dom := fun a h => by
      by_cases q : a = p
      · subst q; rw [upd_same]; exact fun z => by cases z
      · rw [upd_ne q]; exact s.dom a (by rw [upd_ne q]; exact h)
    ex := fun a o h => by
      have q : a ≠ p := fun e => by subst e; rw [un] at h; cases h
      rw [out_ne q]
      exact s.ex a o (by rw [upd_ne q]; exact h)
    keep := fun a o nw h => by
      by_cases q : a = p
      · subst q; rw [upd_same]; rw [hp] at h; exact h
      · rw [upd_ne q]; exact s.keep a o nw (by rw [upd_ne q]; exact h)
    same := fun a h => by
      by_cases q : a = p
      · subst q; rw [out_p, un]
      · rw [out_ne q, s.same a (by rw [upd_ne q]; exact h), upd_ne q]
    kp := fun j k => s.kp j (by
      by_cases e : j = i
      · subst e; rw [lock_i]; exact fun z => by cases z
      · rw [lock_ne e]; exact k) }
theorem rel_unlock {env' : PEnv} {Hs' H' : Hp} {u z : HO} (r : Rel cf R Hs env σ H F wf) (hk : cf.kd i = .M) (hF : F i = [p]) (hp : H p = some u) (s : Stp (cf.lock i) wf env (upd Hs p z) (upd H p z) env' Hs' H') (r' : Rel (cf.lock i) R Hs' env' σ H' (hidF F i) wf) : Rel cf R (outH Hs' p) env' σ (upd H' p u) F wf := by
  have sb := stp_unlock r hk hF hp s
  have hm : p ∈ F i := by rw [hF]; exact List.mem_cons_self
  have kw : cf.kd i ≠ .W := by rw [hk]; exact fun z => by cases z
  have nep : ∀ {k : Nat} {a : Addr}, k ≠ i → a ∈ F k → a ≠ p := fun {k a} ne m e => by subst e; exact r.dis k i ne a m hm
  refine
    { len := r'.len
      exs := fun a o h => by
        by_cases q : a = p
        · subst q; rw [out_p] at h; cases h
        · rw [out_ne q] at h; rw [upd_ne q]; exact r'.exs a o h
      ex0 := fun a o h n => sb.ex a o (r.ex0 a o h n)
      dom0 := fun a h => sb.dom a (r.dom0 a h)
      slot := fun j d h => ?_
      nod := r.nod
      dis := r.dis
      fdom := fun j a m => sb.dom a (r.fdom j a m)
      uns := fun j a m => ?_
      new := r.new
      volw := r.volw
      volb := r.volb
      wdom := fun a m => ?_
      ior := fun q h => ?_ }
  · by_cases k : cf.kd j = .W
    · have e : j ≠ i := fun e => by subst e; exact kw k
      obtain ⟨v, h1, h2⟩ := r'.slot j d h
      refine ⟨v, h1, ?_⟩
      rw [lock_ne e, hid_ne e, k] at h2
      rw [k]
      obtain ⟨p', xs, ds, e1, e2, e3, e4, e5⟩ := h2
      exact ⟨p', xs, ds, e1, e2, e3, by rw [upd_ne (nep e (by rw [e3]; exact List.mem_cons_self))]; exact e4, e5⟩
    · rw [sb.kp j k] at h
      obtain ⟨v, h1, h2⟩ := r.slot j d h
      refine ⟨v, h1, ?_⟩
      have own : ∀ a ∈ F j, ∀ o, H a = some o → upd H' p u a = some o := fun a m o e => sb.keep a o (r.volb j k a m) e
      cases q : cf.kd j with
      | S => rw [q] at h2; exact Rp.mono sb.ex h2
      | Q => rw [q] at h2; exact Rp.mono sb.ex h2
      | P => rw [q] at h2; exact Own.keep (th_mono (rs_mono sb.ex)) h2 own
      | N => rw [q] at h2; exact Rp.mono (rs_mono sb.ex) h2
      | M => rw [q] at h2; exact ⟨Own.keep (rs_mono sb.ex) h2.1 own, h2.2⟩
      | W => exact absurd q k
  · by_cases e : j = i
    · subst e
      rw [hF] at m
      rw [List.mem_singleton.mp m]; exact out_p
    · rw [out_ne (nep e m)]
      exact r'.uns j a (by rw [hid_ne e]; exact m)
  · obtain ⟨h1, h2⟩ := r'.wdom a m
    have ne : a ≠ p := fun e => by subst e; exact r.volb i kw a hm m
    exact ⟨by rw [upd_ne ne]; exact h1, by rw [out_ne ne]; exact h2⟩
  · obtain ⟨h1, h2, h3, h4⟩ := r'.ior q h
    have ne : (0 : Nat) ≠ i := fun e => by subst e; rw [lock_i] at h3; cases h3
    rw [hid_ne ne] at h2
    rw [lock_ne ne] at h3
    exact ⟨h1, h2, h3, h4⟩
theorem rs_unlock {Hs' : Hp} {z : HO} (hp : H p ≠ none) : Ex (rs Hs' (upd H p z)) (rs (outH Hs' p) H) := fun a o h => by
  by_cases q : a = p
  · subst q; rw [rs_some (upd_same)] at h; cases h
  · cases e : H a with
    | some u => rw [rs_some (show upd H p z a = some u by rw [upd_ne q]; exact e)] at h; cases h
    | none =>
      rw [rs_none (show upd H p z a = none by rw [upd_ne q]; exact e)] at h
      rw [rs_none e, out_ne q]; exact h
end
def eLock (i : Nat) (f : M D) : M D := fun e => match e[i]? with
  | some (some (.dic kvs)) => if (kvs.map (·.2)).all D.sc then (match f e with
    | .ok d e' => .ok d e'
    | _ => .stuck) else .stuck
  | _ => .stuck
section
variable {X : Cx} {cf : Cf} {W : WX} {a : Expr} {ta : TE} {fa : M D} {n : Bool} {i : Nat}
theorem sd_lock (hk : cf.kd i = .M) (h : Sd (cf.lock i) W .V n ta fa) : Sd cf W .V n (tLockE ta) (eLock i fa) := by
  refine Sd.mk (fun R Hs env σ H F wf r d env' q Q k => ?_) (fun R Hs env σ H F wf r x env' q Q k => ?_)
  · unfold eLock at q
    split at q
    · rename_i kvs q0
      split at q
      · rename_i ks
        split at q
        · rename_i d' e' q1
          cases q
          obtain ⟨p, kvs', a1, a2, a3, a4, a5⟩ := own_dic r hk q0
          refine ⟨p, .dK kvs', a3, trivial, fun od => ?_⟩
          refine h.ok (r.lock hk a2 a3 q0 a1 a4 a5 ks od) q1 fun v Hs' H' s r' pv nr => ⟨?_, ?_⟩
          · exact r'.exs _ _ (s.ex _ _ upd_same)
          · exact k v _ _ (stp_unlock r hk a2 a3 s) (rel_unlock r hk a2 a3 s r') (pv.mono (rs_unlock (by rw [a3]; exact fun z => by cases z))) fun e1 e2 => (nr e1 e2).mono (rs_unlock (by rw [a3]; exact fun z => by cases z))
        · cases q
      · cases q
    · cases q
  · unfold eLock at q
    split at q
    · split at q
      · split at q
        · cases q
        · cases q
      · cases q
    · cases q
def kD : Key → D
  | .inl j => .int j
  | .inr x => .str x
theorem kD_rp {K : PySem.W.Frag} {x : Bool} {G : Hp} (k : Key) : Rp K x G (kV k) (kD k) := by
  cases k with
  | inl j => exact .sc rfl
  | inr z => exact .sc rfl
theorem q_dic {R : Rs} {Hs : Hp} {env : PEnv} {σ : L2.St} {H : Hp} {F : Nat → List Addr} {wf : List Addr} {kvs : List (Key × D)} (r : Rel cf R Hs env σ H F wf) (hk : cf.kd i = .Q) (h : env[i]? = some (some (.dic kvs))) : ∃ p o kvs', σ[i]? = some (some (.ref p)) ∧ Hs p = some (.frz o (.dK kvs')) ∧ kvs'.map (·.1) = kvs.map (·.1) ∧ RpL cf.K false Hs (kvs'.map (·.2)) (kvs.map (·.2)) := by
  obtain ⟨v, h1, h2⟩ := r.slot i _ h
  rw [hk] at h2
  obtain ⟨a, kvs', rfl, ⟨o, h3⟩, h4, h5⟩ := Rp.dic_invX h2
  exact ⟨a, o, kvs', h1, h3, h4, h5⟩
def dicK (i : Nat) (e : PEnv) : Option (List (Key × D)) := match e[i]? with
  | some (some (.dic kvs)) => some kvs
  | _ => none
theorem dicK_some {i : Nat} {e : PEnv} {kvs : List (Key × D)} (h : dicK i e = some kvs) : e[i]? = some (some (.dic kvs)) := by
  unfold dicK at h
  split at h
  · rename_i h'; cases h; exact h'
  · cases h
def iKQ (i : Nat) : M (List D) := fun e => match dicK i e with
  | some kvs => .ok (kvs.map fun kv => kD kv.1) e
  | none => .stuck
theorem itk_ok {K : PySem.W.Frag} {p : Addr} {o : Obj} {kvs' : List (Key × V)} {kvs : List (Key × D)} {Hs1 : Hp} (h : Hs1 p = some (.frz o (.dK kvs'))) (hk : kvs'.map (·.1) = kvs.map (·.1)) : ItOk K (Itk p o kvs') Hs1 (kvs.map fun kv => kD kv.1) := by
  have hl : kvs'.length = kvs.length := by have := congrArg List.length hk; rwa [List.length_map, List.length_map] at this
  refine ⟨fun j H hj e => ⟨e _ _ h, by rw [List.length_map] at hj; omega⟩, fun H e => ⟨e _ _ h, by rw [List.length_map]; omega⟩, fun j H x H' e hj y => ?_⟩
  obtain ⟨rfl, k, v, y1, rfl⟩ := y
  refine ⟨Ex.refl _, fun G e1 e2 => ⟨kD k, ?_, kD_rp k⟩⟩
  have z : (kvs'.map (·.1))[j]? = some k := by rw [List.getElem?_map, y1]; rfl
  rw [hk, List.getElem?_map] at z
  obtain ⟨kv, z1, z2⟩ := Option.map_eq_some_iff.mp z
  rw [List.getElem?_map, z1, ← z2]; rfl
theorem si_keysQ {tg e : Expr} (hK : cf.K = X.K) (po : PE X e (tVar i)) (hk : cf.kd i = .Q) : SI X cf W tg e (iKeys (tVar i)) (iKQ i) := by
  refine ⟨pi_keys po, SdI.mk (fun R Hs env σ H F wf r ds env' q Rk k => ?_) (fun R Hs env σ H F wf r x env' q Rk k => ?_)⟩
  · unfold iKQ at q
    cases q0 : dicK i env with
    | none => rw [q0] at q; cases q
    | some kvs =>
      rw [q0] at q
      cases q
      obtain ⟨p, o, kvs', a1, a2, a3, a4⟩ := q_dic r hk (dicK_some q0)
      exact ⟨.ref p, a1, p, o, rfl, .inl ⟨kvs', r.exs _ _ a2, k _ Hs H Stp.refl r (itk_ok a2 a3)⟩⟩
  · unfold iKQ at q
    cases q0 : dicK i env with
    | none => rw [q0] at q; cases q
    | some kvs => rw [q0] at q; cases q
def eDIxQ (i : Nat) (f : M D) : M D := fun e => match dicK i e with
  | some kvs => bnd f (fun k => lift (match keyD k with
    | some kk => (match dval kvs kk with
      | some d => if d.sc then some d else none
      | none => none)
    | none => none)) e
  | none => .stuck
theorem val_sc {K : PySem.W.Frag} {G : Hp} {k : Key} {d : D} : ∀ {kvs' : List (Key × V)} {kvs : List (Key × D)}, kvs'.map (·.1) = kvs.map (·.1) → RpL K false G (kvs'.map (·.2)) (kvs.map (·.2)) → dval kvs k = some d → ∃ v, valV kvs' k = some v ∧ Rp K false G v d
  | [], [], _, _, h => by cases h
  | p :: r, q :: s, h1, h2, h => by
    rw [List.map_cons, List.map_cons] at h1 h2
    injection h1 with e1 e2
    cases h2 with
    | cons h2 h3 =>
      by_cases e : p.1 = k
      · have e' : q.1 = k := e1 ▸ e
        rw [valV_pos e]
        have z : dval (q :: s) k = some q.2 := by simp [dval, e']
        rw [z] at h; cases h
        exact ⟨_, rfl, h2⟩
      · have e' : ¬ q.1 = k := fun z => e (e1.trans z)
        rw [valV_neg e]
        have z : dval (q :: s) k = dval s k := by simp [dval, e']
        rw [z] at h
        exact val_sc e2 h3 h
  | [], _ :: _, h1, _, _ => by cases h1
  | _ :: _, [], h1, _, _ => by cases h1
theorem se_dixQ {o ix : Expr} {ti : TE} {f : M D} {c : Cls} {n1 : Bool} {pos : Pos} (hu : X.A.units + 64 < cLine) (po : PE X o (tVar i)) (hk : cf.kd i = .Q) (h : SE X cf W c n1 ix ti f) (hs : NoSl ix := by intro _ _; rfl) : SE X cf W .V true (.Subscript o ix pos) (tOp rDIx (tVar i) ti) (eDIxQ i f) := by
  refine ⟨pe_dget (by omega) po h.p hs, Sd.mk (fun R Hs env σ H F wf r d env' q Q k => ?_) (fun R Hs env σ H F wf r x env' q Q k => ?_)⟩
  · unfold eDIxQ at q
    cases q0 : dicK i env with
    | none => rw [q0] at q; cases q
    | some kvs =>
      rw [q0] at q
      obtain ⟨d2, env1, q1, q2⟩ := bnd_ok q
      obtain ⟨qg, rfl⟩ := lift_ok q2
      obtain ⟨p0, o0, kv0, a1, a2, a3, a4⟩ := q_dic r hk (dicK_some q0)
      refine ⟨.ref p0, a1, ?_⟩
      refine h.s.ok r q1 fun v Hs1 H1 s1 r1 p1 _ => ?_
      split at qg
      · rename_i kk hkk
        split at qg
        · rename_i d' hd
          split at qg
          · rename_i hsc
            cases qg
            have b2 := s1.ex _ _ a2
            obtain ⟨w, w1, w2⟩ := val_sc (k := kk) a3 (a4.mono s1.ex) hd
            refine ⟨p0, w, rfl, .inl ⟨_, kk, .inr ⟨o0, r1.exs _ _ b2⟩, keyD_v p1 hkk, w1.symm⟩, ?_⟩
            exact k w Hs1 H1 s1 r1 (w2.sc_any hsc true _) fun _ _ => w2.sc_any hsc true _
          · cases qg
        · cases qg
      · cases qg
  · unfold eDIxQ at q
    cases q0 : dicK i env with
    | none => rw [q0] at q; cases q
    | some kvs =>
      rw [q0] at q
      obtain ⟨p0, o0, kv0, a1, a2, a3, a4⟩ := q_dic r hk (dicK_some q0)
      refine ⟨.ref p0, a1, ?_⟩
      rcases bnd_ex q with q | ⟨d2, env1, q1, q2⟩
      · exact h.s.exn r q k
      · exact (lift_ex q2).elim
theorem sg_lock {j : Nat} {st : Stmt} (hk : cf.kd i = .M) (h : SG X (cf.lock i) W .V n j st fa) : SG X cf W .V n j st (eLock i fa) := by
  obtain ⟨t, p, s⟩ := h
  exact ⟨tLockE t, ⟨fun pins s σ H D I hw => (ps_lock p).run pins s σ H D I hw⟩, sd_lock hk s⟩
@[simp] theorem r_eLock {e : PEnv} {kvs : List (Key × D)} (h : e[i]? = some (some (.dic kvs))) (hs : (kvs.map (·.2)).all D.sc = true) {d : D} {e' : PEnv} (hf : fa e = .ok d e') : eLock i fa e = .ok d e' := by
  unfold eLock
  simp only [h, hs, hf, if_true]
end
end MV
namespace MV
open PySem PySem.Spec PyProof.Rows L2
def gIsB : D → D → Option D
  | .bl a, .bl b => some (.bl (decide (a = b)))
  | _, _ => none
def gNotB : D → D → Option D
  | .bl a, .bl b => some (.bl (!decide (a = b)))
  | _, _ => none
@[simp] theorem gIsB_b {a b : Bool} : gIsB (.bl a) (.bl b) = some (.bl (decide (a = b))) := (rfl)
@[simp] theorem gNotB_b {a b : Bool} : gNotB (.bl a) (.bl b) = some (.bl (!decide (a = b))) := (rfl)
def rNotB : R2 := fun x y H Q => ∃ a b, x = .bl a ∧ y = .bl b ∧ Q (.bl (!decide (a = b))) H
theorem snd_notB {K : PySem.W.Frag} : Snd2 K true rNotB gNotB := fun G H x y d1 d2 d e h1 h2 q Q k => by
  unfold gNotB at q
  split at q
  · cases q
    exact ⟨_, _, h1.bl_inv, h2.bl_inv, k_sc k rfl⟩
  · cases q
section
variable {X : Cx} {cf : Cf} {W : WX} {c c' : Cls} {n n1 n2 : Bool} {a b : Expr} {ta tb : TE} {fa fb : M D} {pos : Pos}
theorem st_notB (ha : SE X cf W c n1 a ta fa) (hb : SE X cf W c' n2 b tb fb) (hm : behindInMarks .IsNot b = false := by rfl) : ST X cf W (.Compare a [.IsNot] [b] pos) (tTest (tOp rNotB ta tb)) (tB (e2 gNotB fa fb)) := st_cmp op_isnot_bl snd_notB ha.b hb.b hm
end
def okR3 (i j c : Int) : Bool := decide (c ≠ 0) && decide (c.natAbs < 1073741824) && Builtin.Range.small i j c && decide ((Builtin.Range.rangeSize i j c).toNat ≤ LIM)
def gLR3 : List D → Option D
  | [.int i, .int j, .int c] => if okR3 i j c then some (.lst (rngC i c (Builtin.Range.rangeSize i j c).toNat)) else none
  | _ => none
@[simp] theorem gLR3_i {i j c : Int} : gLR3 [.int i, .int j, .int c] = if okR3 i j c then some (.lst (rngC i c (Builtin.Range.rangeSize i j c).toNat)) else none := (rfl)
section
variable {X : Cx} {cf : Cf} {W : WX} {c : Cls} {n : Bool}
end
end MV
namespace MV
open PySem PySem.Spec PyProof.Rows L2
section
variable {X : Cx} {cf : Cf} {W : WX}
end
end MV
namespace MV
open PySem L2
def fgR (i : Nat) : Res Fl → Res Fl
  | .ok f e => .ok f (e.set i none)
  | .ex c e => .ex c (e.set i none)
  | .stuck => .stuck
def sSeal (i : Nat) (g : M Fl) : M Fl := fun e => fgR i (g e)
section
variable {cf : Cf} {R : Rs} {Hs H H' : Hp} {env : PEnv} {σ : L2.St} {F : Nat → List Addr} {wf : List Addr} {i : Nat}
end
section
variable {X : Cx} {cf : Cf} {W : WX}
end
@[simp] theorem r_sSeal {i : Nat} {g : M Fl} {e : PEnv} : sSeal i g e = fgR i (g e) := rfl
@[simp] theorem fgR_ok {i : Nat} {f : Fl} {e : PEnv} : fgR i (.ok f e) = .ok f (e.set i none) := rfl
@[simp] theorem fgR_ex {i : Nat} {c : Str} {e : PEnv} : fgR i (.ex c e) = .ex c (e.set i none) := rfl
end MV
namespace MV
open PySem L2
open PySem.W (alike alikeAll dataLt minD AlikeAll AllAlike Sortable dataLe EachIs)
def leD (a b : D) : Bool := !ltD b a
section
variable {X : Cx} {cf : Cf} {W : WX} {c : Cls}
end
end MV
namespace MV
open PySem PySem.Spec PyProof.Rows L2
def gSIndex : D → List D → Option D
  | .str a, [.str b] => match Builtin.Str.occurrences a b 0 a.length 1 with
    | i :: _ => some (.int (i : Nat))
    | [] => none
  | _, _ => none
section
variable {X : Cx} {cf : Cf} {W : WX} {c : Cls} {n n1 n2 : Bool}
end
@[simp] theorem tyD_s {z : Str} : tyD (.str z) = "str" := (rfl)
end MV
namespace Ov
open PySem MV
def B_need_signs : M Fl := (sIf (tB (e2 gNe (eLc [1] (iL (eV 0)) (tgN 1) (tOr2 (tB (e2 gNe (eN gLen (aCons (eV 1) aNil)) (eC (.int 1)))) (tB (e2 gNotIn (eV 1) (eC (.str (Str.ofString "abcdefghijklmnopqrstuvwxyz")))))) (eV 1)) (eN gLst aNil))) (sRaise (Str.ofString "NoSign")) sSkip)
def F_need_signs : List D → FR := runF 2 B_need_signs
def T_greatest_borders_l1 : M Bool := (tAnd2 (tB (e2 gGt (eV 2) (eC (.int 0)))) (tB (e2 gNe (e2 gIx (eV 0) (eV 2)) (eV 4))))
def B_greatest_borders_l2 : M Fl := (sSet 2 (eS (e2 gIx (eV 1) (e2 gSub (eV 2) (eC (.int 1))))))
def B_greatest_borders_l3 : M Fl := (sSeq (sIf (tB (e2 gGt (eV 3) (eC (.int 0)))) (sSeq (sWhile T_greatest_borders_l1 B_greatest_borders_l2 WFUEL)
  (sAug (fun i j => i + j) 2 (eN gInt1 (aCons (e2 gEq (e2 gIx (eV 0) (eV 2)) (eV 4)) aNil)))) sSkip)
  (sApp 1 (eS (eV 2))))
def B_greatest_borders : M Fl := (sSeq (sSetM 1 (eN gLst aNil))
  (sSeq (sSet 2 (eC (.int 0)))
  (sSeq (sFor (iN gEn (aCons (eV 0) aNil)) (tgT [3, 4]) B_greatest_borders_l3)
  (sRet (eV 1)))))
def F_greatest_borders : List D → FR := runF 5 B_greatest_borders
def B__law_hand : M Fl := (sRet (eN gLst (aCons (eN gMax2 (aCons (eC (.int 0)) (aCons (e2 gSub (eV 0) (e2 gPow (eC (.int 10)) (eC (.int 18)))) aNil))) (aCons (e2 gMul (e2 gAdd (e2 gMod (eV 0) (eC (.int 2147483629))) (eC (.int 1))) (eN gInt1 (aCons (e2 gNe (eV 0) (e2 gPow (eC (.int 10)) (eC (.int 18)))) aNil))) aNil))))
def F__law_hand : List D → FR := runF 1 B__law_hand
def B__law_take : M Fl := (sSeq (sIf (tB (e2 gGt (eIxW 0 (eC (.int 0))) (eC (.int 0)))) (sSeq (sSet 2 (e2 gMod (eIxW 0 (eC (.int 0))) (eV 1)))
  (sSeq (sPutW 0 (e2 gFdiv (eIxW 0 (eC (.int 0))) (eV 1)) (eC (.int 0)))
  (sRet (eV 2)))) sSkip)
  (sSeq (sPutW 0 (e2 gMod (e2 gMul (eIxW 0 (eC (.int 1))) (eC (.int 48271))) (eC (.int 2147483647))) (eC (.int 1)))
  (sRet (e2 gMod (e2 gFdiv (e2 gPow (e2 gAdd (eIxW 0 (eC (.int 1))) (eC (.int 1))) (eC (.int 7))) (eC (.int 8))) (eV 1)))))
def F__law_take : List D → FR := runF 3 B__law_take
def B__law_ends : M Fl := (sRet (eF (eLc [1] (iN gR1 (aCons (eN gLen (aCons (eV 0) aNil)) aNil)) (tgN 1) (tB (e2 gEq (eSl (eV 0) oNone (oSome (eV 1))) (eSl (eV 0) (oSome (e2 gSub (eN gLen (aCons (eV 0) aNil)) (eV 1))) oNone))) (eV 1))))
def F__law_ends : List D → FR := runF 2 B__law_ends
def T_borders_l1 : M Bool := (tB (e2 gGt (eV 3) (eC (.int 0))))
def B_borders_l2 : M Fl := (sSeq (sApp 1 (eS (eV 3)))
  (sSet 3 (e2 gIx (eV 2) (e2 gSub (eV 3) (eC (.int 1))))))
def B_borders : M Fl := (sSeq (sDrop (eCall F_need_signs (aCons (eV 0) aNil)))
  (sSeq (sSetM 1 (eN gLst aNil))
  (sSeq (sIf (tB (e2 gNe (eV 0) (eN gLst aNil))) (sSeq (sSet 2 (eCall F_greatest_borders (aCons (eV 0) aNil)))
  (sSeq (sSet 3 (e2 gIx (eV 2) (e1 gNeg (eC (.int 1)))))
  (sSeq (sWhile T_borders_l1 B_borders_l2 WFUEL)
  (sApp 1 (eC (.int 0)))))) sSkip)
  (sRet (e1 gRev (eV 1))))))
def F_borders : List D → FR := runF 4 B_borders
def B__law_letters_l1 : M Fl := (sSeq (sSet 4 (eCallW F__law_take 0 (aCons (eN gLen (aCons (eV 1) aNil)) aNil)))
  (sSeq (sSet 2 (eF (e2 gAdd (eV 2) (e2 gIx (eV 1) (eV 4)))))
  (sSet 1 (e2 gAdd (eSl (eV 1) oNone (oSome (eV 4))) (eSl (eV 1) (oSome (e2 gAdd (eV 4) (eC (.int 1)))) oNone)))))
def B__law_letters : M Fl := (sSeq (sSet 1 (eC (.str (Str.ofString "abcdefghijklmnopqrstuvwxyz"))))
  (sSeq (sSet 2 (eC (.str (Str.ofString ""))))
  (sSeq (sFor (iN gR1 (aCons (e2 gIx (eN gLst (aCons (eC (.int 2)) (aCons (eC (.int 3)) (aCons (eC (.int 5)) (aCons (eC (.int 26)) aNil))))) (eCallW F__law_take 0 (aCons (eC (.int 4)) aNil))) aNil)) (tgN 3) B__law_letters_l1)
  (sRet (eV 2)))))
def F__law_letters : List D → FR := runF 5 B__law_letters
def B__law_signs : M Fl := (sRet (eF (eLc [3] (iN gR1 (aCons (eV 2) aNil)) (tgN 3) tTrue (e2 gIx (eV 1) (eCallW F__law_take 0 (aCons (eN gLen (aCons (eV 1) aNil)) aNil))))))
def F__law_signs : List D → FR := runF 4 B__law_signs
def B__law_laid_l1 : M Fl := (sSeq (sSet 6 (e2 gIx (eV 4) (eCallW F__law_take 0 (aCons (eN gLen (aCons (eV 4) aNil)) aNil))))
  (sIf (tB (e2 gLe (e2 gSub (e2 gAdd (eN gLen (aCons (eV 3) aNil)) (eN gLen (aCons (eV 1) aNil))) (eV 6)) (eV 2))) (sSet 3 (eF (e2 gAdd (eV 3) (eSl (eV 1) (oSome (eV 6)) oNone)))) sSkip))
def B__law_laid : M Fl := (sSeq (sSet 3 (eF (eN gList1 (aCons (eV 1) aNil))))
  (sSeq (sSet 4 (eCall F__law_ends (aCons (eV 1) aNil)))
  (sSeq (sFor (iN gR1 (aCons (e2 gAdd (eC (.int 1)) (eCallW F__law_take 0 (aCons (eC (.int 6)) aNil))) aNil)) (tgN 5) B__law_laid_l1)
  (sRet (eV 3)))))
def F__law_laid : List D → FR := runF 7 B__law_laid
def B__law_text_l1 : M Fl := (sSetM 3 (eCallW F__law_laid 0 (aCons (eV 3) (aCons (eV 2) aNil))))
def B__law_text : M Fl := (sSeq (sSet 2 (e2 gIx (eN gLst (aCons (eC (.int 40)) (aCons (eC (.int 200)) aNil))) (eN gInt1 (aCons (e2 gEq (eCallW F__law_take 0 (aCons (eC (.int 16)) aNil)) (eC (.int 3))) aNil))))
  (sSeq (sIf (tB (e2 gEq (eCallW F__law_take 0 (aCons (eC (.int 4)) aNil)) (eC (.int 0)))) (sRet (eCallW F__law_signs 0 (aCons (eV 1) (aCons (eCallW F__law_take 0 (aCons (e2 gAdd (eV 2) (eC (.int 1))) aNil)) aNil)))) sSkip)
  (sSeq (sSetM 3 (eCallW F__law_signs 0 (aCons (eV 1) (aCons (e2 gAdd (eC (.int 1)) (eCallW F__law_take 0 (aCons (eC (.int 4)) aNil))) aNil))))
  (sSeq (sFor (iN gR1 (aCons (e2 gAdd (eC (.int 1)) (eCallW F__law_take 0 (aCons (eC (.int 4)) aNil))) aNil)) (tgN 4) B__law_text_l1)
  (sSeq (sSet 5 (eCallW F__law_take 0 (aCons (eC (.int 5)) aNil)))
  (sSeq (sSet 6 (eCallW F__law_take 0 (aCons (eN gLen (aCons (eV 3) aNil)) aNil)))
  (sSeq (sIf (tB (e2 gEq (eV 5) (eC (.int 1)))) (sPut 3 (eS (e2 gIx (eV 1) (eCallW F__law_take 0 (aCons (eN gLen (aCons (eV 1) aNil)) aNil)))) (eV 6)) sSkip)
  (sRet (e2 gIx (eN gLst (aCons (eV 3) (aCons (eV 3) (aCons (eSl (eV 3) oNone (oSome (e2 gAdd (eV 6) (eC (.int 1))))) (aCons (eSl (eV 3) (oSome (eV 6)) oNone) (aCons (eV 3) aNil)))))) (eS (eV 5)))))))))))
def F__law_text : List D → FR := runF 7 B__law_text
def B_need_word : M Fl := (sIf (tB (e2 gEq (eV 0) (eN gLst aNil))) (sRaise (Str.ofString "NoWord")) sSkip)
def F_need_word : List D → FR := runF 1 B_need_word
def B_laid_at : M Fl := (sSeq (sSet 2 (eN gLen (aCons (eV 1) aNil)))
  (sRet (eF (eLc [3] (iN gR1 (aCons (e2 gAdd (e2 gSub (eN gLen (aCons (eV 0) aNil)) (eV 2)) (eC (.int 1))) aNil)) (tgN 3) (tB (e2 gEq (eSl (eV 0) (oSome (eV 3)) (oSome (e2 gAdd (eV 3) (eV 2)))) (eV 1))) (eV 3)))))
def F_laid_at : List D → FR := runF 4 B_laid_at
def B__law_lies_l1 : M Fl := (sIf (tB (e2 gEq (eLc [4] (iN gR1 (aCons (eN gLen (aCons (eV 1) aNil)) aNil)) (tgN 4) (tB (e2 gNe (e2 gIx (eV 0) (e2 gAdd (eV 3) (eV 4))) (e2 gIx (eV 1) (eV 4)))) (eV 4)) (eN gLst aNil))) (sApp 2 (eS (eV 3))) sSkip)
def B__law_lies : M Fl := (sSeq (sSetM 2 (eN gLst aNil))
  (sSeq (sFor (iN gR1 (aCons (e2 gAdd (e2 gSub (eN gLen (aCons (eV 0) aNil)) (eN gLen (aCons (eV 1) aNil))) (eC (.int 1))) aNil)) (tgN 3) B__law_lies_l1)
  (sRet (eV 2))))
def F__law_lies : List D → FR := runF 5 B__law_lies
def B_lies_at : M Fl := (sSeq (sDrop (eCall F_need_word (aCons (eV 1) aNil)))
  (sSeq (sDrop (eCall F_need_signs (aCons (e2 gAdd (eV 0) (eV 1)) aNil)))
  (sRet (eCall F_laid_at (aCons (eV 0) (aCons (eV 1) aNil))))))
def F_lies_at : List D → FR := runF 2 B_lies_at
def B_need_text : M Fl := (sIf (tB (e2 gEq (eV 0) (eN gLst aNil))) (sRaise (Str.ofString "NoText")) sSkip)
def F_need_text : List D → FR := runF 1 B_need_text
def B_first_bare_l1 : M Fl := (sIf (tB (e2 gLe (eV 4) (eV 3))) (sSet 3 (eN gMax2 (aCons (eV 3) (aCons (e2 gAdd (eV 4) (eV 0)) aNil)))) sSkip)
def B_first_bare : M Fl := (sSeq (sSet 3 (eC (.int 0)))
  (sSeq (sFor (iL (eV 1)) (tgN 4) B_first_bare_l1)
  (sSeq (sIf (tB (e2 gLt (eV 3) (eV 2))) (sRet (eV 3)) sSkip)
  (sRet (eC .non)))))
def F_first_bare : List D → FR := runF 5 B_first_bare
def B_need_both : M Fl := (sSeq (sDrop (eCall F_need_word (aCons (eV 1) aNil)))
  (sSeq (sDrop (eCall F_need_signs (aCons (e2 gAdd (eV 0) (eV 1)) aNil)))
  (sDrop (eCall F_need_text (aCons (eV 0) aNil)))))
def F_need_both : List D → FR := runF 2 B_need_both
def B_covered : M Fl := (sSeq (sDrop (eCall F_need_both (aCons (eV 0) (aCons (eV 1) aNil))))
  (sSeq (sSet 2 (eCall F_lies_at (aCons (eV 0) (aCons (eV 1) aNil))))
  (sSeq (sSet 3 (eCall F_first_bare (aCons (eN gLen (aCons (eV 1) aNil)) (aCons (eV 2) (aCons (eN gLen (aCons (eV 0) aNil)) aNil)))))
  (sSeq (sIf (tB (e2 gIsN (eV 3) (eC .non))) (sRet (eN gTupD (aCons (eC (.str (Str.ofString "covers"))) (aCons (eV 2) aNil)))) sSkip)
  (sRet (eN gTupD (aCons (eC (.str (Str.ofString "bare"))) (aCons (eV 3) aNil))))))))
def F_covered : List D → FR := runF 4 B_covered
def B_all_covers : M Fl := (sSeq (sDrop (eCall F_need_signs (aCons (eV 0) aNil)))
  (sSeq (sDrop (eCall F_need_text (aCons (eV 0) aNil)))
  (sSeq (sSet 1 (eLc [2] (iL (eCall F_borders (aCons (eV 0) aNil))) (tgN 2) (tAnd2 (tB (e2 gGt (eV 2) (eC (.int 0)))) (tB (e2 gEq (e2 gIx (eCall F_covered (aCons (eV 0) (aCons (eSl (eV 0) oNone (oSome (eV 2))) aNil))) (eC (.int 0))) (eC (.str (Str.ofString "covers")))))) (eV 2)))
  (sRet (eF (e2 gAdd (eV 1) (eN gLst (aCons (eN gLen (aCons (eV 0) aNil)) aNil))))))))
def F_all_covers : List D → FR := runF 3 B_all_covers
def B_shortest_cover : M Fl := (sRet (e2 gIx (eCall F_all_covers (aCons (eV 0) aNil)) (eC (.int 0))))
def F_shortest_cover : List D → FR := runF 1 B_shortest_cover
def B_is_bare : M Fl := (sRet (e2 gEq (eCall F_shortest_cover (aCons (eV 0) aNil)) (eN gLen (aCons (eV 0) aNil))))
def F_is_bare : List D → FR := runF 1 B_is_bare
def B_is_laying : M Fl := (sSeq (sDrop (eCall F_need_both (aCons (eV 0) (aCons (eV 1) aNil))))
  (sSeq (sIf (tB (e2 gNe (eV 2) (eF (eN gSortSet (aCons (eV 2) aNil))))) (sRet (eC (.bl false))) sSkip)
  (sSeq (sSet 3 (eCall F_lies_at (aCons (eV 0) (aCons (eV 1) aNil))))
  (sSeq (sIf (tB (e2 gNe (eLc [4] (iL (eV 2)) (tgN 4) (tB (e2 gNotIn (eV 4) (eV 3))) (eV 4)) (eN gLst aNil))) (sRet (eC (.bl false))) sSkip)
  (sRet (e2 gIsN (eCall F_first_bare (aCons (eN gLen (aCons (eV 1) aNil)) (aCons (eV 2) (aCons (eN gLen (aCons (eV 0) aNil)) aNil)))) (eC .non)))))))
def F_is_laying : List D → FR := runF 5 B_is_laying
def B_onward_l1 : M Fl := (sSeq (sSet 5 (eLc [6] (iL (eV 2)) (tgN 6) (tAnd2 (tB (eChain gLt gLe (eV 4) (eV 6) (e2 gAdd (eV 4) (eN gLen (aCons (eV 1) aNil))))) (tB (e2 gNotN (e2 gDIx (eV 3) (eS (eV 6))) (eC .non)))) (eS (e2 gDIx (eV 3) (eS (eV 6))))))
  (sSeq (sDP 3 (eC .non) (eV 4))
  (sIf (tB (e2 gEq (e2 gAdd (eV 4) (eN gLen (aCons (eV 1) aNil))) (eN gLen (aCons (eV 0) aNil)))) (sDP 3 (eC (.int 0)) (eV 4)) (sIf (tB (e2 gNe (eV 5) (eN gLst aNil))) (sDP 3 (e2 gAdd (eC (.int 1)) (eN gMin1 (aCons (eV 5) aNil))) (eV 4)) sSkip))))
def B_onward : M Fl := (sSeq (sSet 2 (eCall F_lies_at (aCons (eV 0) (aCons (eV 1) aNil))))
  (sSeq (sSetD 3 (eN gDNewK aNil))
  (sSeq (sFor (iL (e1 gRev (eV 2))) (tgN 4) B_onward_l1)
  (sRet (eV 3)))))
def F_onward : List D → FR := runF 7 B_onward
def T_fewest_layings_l1 : M Bool := (tB (e2 gGt (e2 gDIx (eV 2) (eS (e2 gIx (eV 3) (e1 gNeg (eC (.int 1)))))) (eC (.int 0))))
def B_fewest_layings_l2 : M Fl := (sSeq (sSet 4 (eS (e2 gIx (eV 3) (e1 gNeg (eC (.int 1))))))
  (sSeq (sSet 5 (eLc [6] (iL (eF (eN gSorted (aCons (eV 2) aNil)))) (tgN 6) (tB (eChain gLt gLe (eV 4) (eV 6) (e2 gAdd (eV 4) (eN gLen (aCons (eV 1) aNil))))) (eV 6)))
  (sApp 3 (eS (e2 gIx (eLc [6] (iL (eV 5)) (tgN 6) (tB (e2 gEq (e2 gDIx (eV 2) (eV 6)) (e2 gSub (e2 gDIx (eV 2) (eV 4)) (eC (.int 1))))) (eV 6)) (eC (.int 0)))))))
def B_fewest_layings : M Fl := (sSeq (sDrop (eCall F_need_both (aCons (eV 0) (aCons (eV 1) aNil))))
  (sSeq (sSet 2 (eCall F_onward (aCons (eV 0) (aCons (eV 1) aNil))))
  (sSeq (sIf (tB (e2 gIsN (eDGet1 (eV 2) (eC (.int 0))) (eC .non))) (sRaise (Str.ofString "NoCover")) sSkip)
  (sSeq (sSetM 3 (eN gLst (aCons (eC (.int 0)) aNil)))
  (sSeq (sWhile T_fewest_layings_l1 B_fewest_layings_l2 WFUEL)
  (sRet (eV 3)))))))
def F_fewest_layings : List D → FR := runF 7 B_fewest_layings
def B__law_due_v6_l1 : M Fl := (sSeq (sSet 5 (eLc [6] (iL (eV 2)) (tgN 6) (tB (eChain gLt gLe (eV 4) (eV 6) (e2 gAdd (eV 4) (eN gLen (aCons (eV 1) aNil))))) (eS (e2 gDIx (eV 3) (eS (eV 6))))))
  (sDP 3 (e2 gAdd (eN gSum (aCons (eV 5) aNil)) (eN gInt1 (aCons (e2 gEq (e2 gAdd (eV 4) (eN gLen (aCons (eV 1) aNil))) (eN gLen (aCons (eV 0) aNil))) aNil))) (eV 4)))
def B__law_due_v6 : M Fl := (sSeq (sSet 2 (eCall F__law_lies (aCons (eV 0) (aCons (eV 1) aNil))))
  (sSeq (sSetD 3 (eN gDNewK aNil))
  (sSeq (sFor (iL (e1 gRev (eV 2))) (tgN 4) B__law_due_v6_l1)
  (sRet (eDGet2 (eV 3) (eC (.int 0)) (eC (.int 0)))))))
def F__law_due_v6 : List D → FR := runF 7 B__law_due_v6
def B_how_many_layings_v2_l1 : M Fl := (sSeq (sSet 4 (eLock 2 (eLc [5] (iKQ 2) (tgN 5) (tB (e2 gGe (e2 gAdd (eV 5) (eN gLen (aCons (eV 1) aNil))) (eV 3))) (eDIxQ 2 (eV 5)))))
  (sDP 2 (e2 gAdd (eN gSum (aCons (eV 4) aNil)) (eN gInt1 (aCons (e2 gEq (eV 3) (eC (.int 0))) aNil))) (eV 3)))
def B_how_many_layings_v2 : M Fl := (sSeq (sDrop (eCall F_need_both (aCons (eV 0) (aCons (eV 1) aNil))))
  (sSeq (sSetD 2 (eN gDNewK aNil))
  (sSeq (sFor (iL (eCall F_lies_at (aCons (eV 0) (aCons (eV 1) aNil)))) (tgN 3) B_how_many_layings_v2_l1)
  (sRet (eDGet2 (eV 2) (e2 gSub (eN gLen (aCons (eV 0) aNil)) (eN gLen (aCons (eV 1) aNil))) (eC (.int 0)))))))
def F_how_many_layings_v2 : List D → FR := runF 6 B_how_many_layings_v2
def T_greatest_covers_l1 : M Bool := (tB (e2 gGt (eV 6) (eC (.int 0))))
def B_greatest_covers_l2 : M Fl := (sSeq (sIf (tB (e2 gGe (e2 gIx (eV 2) (eS (eV 6))) (e2 gSub (eV 4) (eV 6)))) (sSeq (sPut 2 (eS (eV 4)) (eV 6))
  (sSet 5 (eN gMax2 (aCons (eV 5) (aCons (eV 6) aNil))))) sSkip)
  (sSet 6 (e2 gIx (eV 1) (e2 gSub (eV 6) (eC (.int 1))))))
def B_greatest_covers_l3 : M Fl := (sSeq (sSet 5 (eC (.int 0)))
  (sSeq (sSet 6 (e2 gIx (eV 1) (e2 gSub (eV 4) (eC (.int 1)))))
  (sSeq (sWhile T_greatest_covers_l1 B_greatest_covers_l2 WFUEL)
  (sApp 3 (eS (eV 5))))))
def B_greatest_covers : M Fl := (sSeq (sDrop (eCall F_need_signs (aCons (eV 0) aNil)))
  (sSeq (sSet 1 (eCall F_greatest_borders (aCons (eV 0) aNil)))
  (sSeq (sSetM 2 (e1 gLR1 (e2 gAdd (eN gLen (aCons (eV 0) aNil)) (eC (.int 1)))))
  (sSeq (sSetM 3 (eN gLst aNil))
  (sSeq (sFor (iN gR2 (aCons (eC (.int 1)) (aCons (e2 gAdd (eN gLen (aCons (eV 0) aNil)) (eC (.int 1))) aNil))) (tgN 4) B_greatest_covers_l3)
  (sRet (eV 3)))))))
def F_greatest_covers : List D → FR := runF 7 B_greatest_covers
def B_shortest_covers_l1 : M Fl := (sIf (tB (e2 gEq (eV 3) (eC (.int 0)))) (sApp 1 (eF (e2 gAdd (eV 2) (eC (.int 1))))) (sApp 1 (eS (e2 gIx (eV 1) (e2 gSub (eV 3) (eC (.int 1)))))))
def B_shortest_covers : M Fl := (sSeq (sSetM 1 (eN gLst aNil))
  (sSeq (sFor (iN gEn (aCons (eCall F_greatest_covers (aCons (eV 0) aNil)) aNil)) (tgT [2, 3]) B_shortest_covers_l1)
  (sRet (eV 1))))
def F_shortest_covers : List D → FR := runF 4 B_shortest_covers
def B_covered_beginnings_l1 : M Fl := (sIf (tOr2 (tB (e2 gEq (eV 3) (eC (.int 0)))) (tAnd2 (tB (e2 gNe (eV 2) (eN gLst aNil))) (tB (e2 gLe (eV 3) (e2 gIx (eV 2) (e1 gNeg (eC (.int 1)))))))) (sApp 2 (eF (e2 gAdd (eV 3) (eN gLen (aCons (eV 1) aNil))))) sSkip)
def B_covered_beginnings : M Fl := (sSeq (sDrop (eCall F_need_word (aCons (eV 1) aNil)))
  (sSeq (sDrop (eCall F_need_signs (aCons (e2 gAdd (eV 0) (eV 1)) aNil)))
  (sSeq (sSetM 2 (eN gLst aNil))
  (sSeq (sFor (iL (eCall F_lies_at (aCons (eV 0) (aCons (eV 1) aNil)))) (tgN 3) B_covered_beginnings_l1)
  (sRet (eV 2))))))
def F_covered_beginnings : List D → FR := runF 4 B_covered_beginnings
def B_cover_tree_l1 : M Fl := (sApp2 1 (eV 3) (e2 gAdd (eV 2) (eC (.int 1))))
def B_cover_tree : M Fl := (sSeq (sSet 1 (eLc [4] (iN gR1 (aCons (e2 gAdd (eN gLen (aCons (eV 0) aNil)) (eC (.int 1))) aNil)) (tgN 4) tTrue (eN gLst aNil)))
  (sSeq (sFor (iN gEn (aCons (eCall F_greatest_covers (aCons (eV 0) aNil)) aNil)) (tgT [2, 3]) B_cover_tree_l1)
  (sRet (eV 1))))
def F_cover_tree : List D → FR := runF 5 B_cover_tree
def B_how_many_covers_l1 : M Fl := (sSeq (sSet 3 (eC (.int 0)))
  (sSeq (sIf (tB (e2 gGt (eV 2) (eC (.int 0)))) (sSet 3 (eS (e2 gIx (eV 1) (e2 gSub (eV 2) (eC (.int 1)))))) sSkip)
  (sApp 1 (eF (e2 gAdd (eC (.int 1)) (eV 3))))))
def B_how_many_covers : M Fl := (sSeq (sSetM 1 (eN gLst aNil))
  (sSeq (sFor (iL (eCall F_greatest_covers (aCons (eV 0) aNil))) (tgN 2) B_how_many_covers_l1)
  (sRet (eV 1))))
def F_how_many_covers : List D → FR := runF 4 B_how_many_covers
end Ov
namespace Ov
open PySem (Str)
open MV
def Hd (l : List Int) : Prop := ∃ x y, l = [x, y] ∧ 0 ≤ y ∧ y < 2147483647
theorem take_pos {x y m : Int} (hx : 0 < x) (hm : 0 < m) (hm2 : m < 1073741824) : F__law_take [dI [x, y], .int m] = .ok (.int (x % m)) (dI [x / m, y]) := by
  have hd : L2.CDiv x m := ⟨hm, hm2⟩
  simp [F__law_take, r_runF, B__law_take, L2.atI, L2.ixN, hx, hm, hd]
theorem take_neg {x y m : Int} (hx : ¬ 0 < x) (hy : 0 ≤ y) (hy2 : y < 2147483647) (hm : 0 < m) : F__law_take [dI [x, y], .int m] = .ok (.int ((y * 48271 % 2147483647 + 1) ^ 7 / 8 % m)) (dI [x, y * 48271 % 2147483647]) := by
  have hd : ∀ z, L2.CDiv z 8 := fun z => ⟨by decide, by decide⟩
  have hp : L2.CPow (y * 48271 % 2147483647 + 1) 7 := ⟨by decide, by decide, by omega⟩
  have hq : mulOk y 48271 = true := by simp [mulOk, L2.CMul]
  simp [F__law_take, r_runF, B__law_take, L2.atI, L2.ixN, hx, hm, hd, hp, hq]
theorem take_ok {h : List Int} {m : Int} (hh : Hd h) (hm : 0 < m) (hm2 : m < 1073741824) : ∃ (r : Nat) (h' : List Int), F__law_take [dI h, .int m] = .ok (.int r) (dI h') ∧ (r : Int) < m ∧ Hd h' := by
  obtain ⟨x, y, rfl, h1, h2⟩ := hh
  by_cases hx : 0 < x
  · refine ⟨(x % m).toNat, [x / m, y], ?_, ?_, x / m, y, rfl, h1, h2⟩
    · rw [take_pos hx hm hm2, Int.toNat_of_nonneg (Int.emod_nonneg _ (by omega))]
    · rw [Int.toNat_of_nonneg (Int.emod_nonneg _ (by omega))]; exact Int.emod_lt_of_pos _ hm
  · refine ⟨((y * 48271 % 2147483647 + 1) ^ 7 / 8 % m).toNat, [x, y * 48271 % 2147483647], ?_, ?_, x, _, rfl, Int.emod_nonneg _ (by decide), Int.emod_lt_of_pos _ (by decide)⟩
    · rw [take_neg hx h1 h2 hm, Int.toNat_of_nonneg (Int.emod_nonneg _ (by omega))]
    · rw [Int.toNat_of_nonneg (Int.emod_nonneg _ (by omega))]; exact Int.emod_lt_of_pos _ hm
theorem hand_ok (c : Int) : ∃ h io, F__law_hand [.int c] = .ok (dI h) io ∧ Hd h := by
  have hp : L2.CPow 10 18 := ⟨by decide, by decide, by decide⟩
  have hq : ∀ k : Bool, mulOk (c % 2147483629 + 1) (if k then 1 else 0) = true := fun k => by
    unfold mulOk L2.CMul
    rw [Bool.or_eq_true]
    exact .inl (decide_eq_true (.inl ⟨by omega, by omega⟩))
  refine ⟨[if c - 10 ^ 18 > 0 then c - 10 ^ 18 else 0, (c % 2147483629 + 1) * (if (!decide (c = 10 ^ 18)) = true then 1 else 0)], .int c, ?_, _, _, rfl, ?_, ?_⟩
  · have hq1 : mulOk (c % 2147483629 + 1) 1 = true := hq true
    have hq0 : mulOk (c % 2147483629 + 1) 0 = true := hq false
    have hsz : (2 : Nat) ≤ PySem.sizeLine := by decide
    simp [F__law_hand, r_runF, B__law_hand, hp, hsz]
    by_cases hc : c = 1000000000000000000
    · subst hc; simp [show mulOk 918494962 0 = true from by simp [mulOk, L2.CMul]]
    · simp [hc, hq1]
  · by_cases hc : (!decide (c = 10 ^ 18)) = true
    · rw [if_pos hc]; omega
    · rw [if_neg hc]; omega
  · by_cases hc : (!decide (c = 10 ^ 18)) = true
    · rw [if_pos hc]; omega
    · rw [if_neg hc]; omega
def Lt (z : Str) (n : Nat) : Prop := z.cps.size = n ∧ ∀ c ∈ z.cps.toList, 97 ≤ c ∧ c ≤ 122
theorem lt_all : Lt (Str.ofString "abcdefghijklmnopqrstuvwxyz") 26 := ⟨by decide +kernel, by decide +kernel⟩
theorem lt_nil : Lt (Str.ofString "") 0 := ⟨by decide +kernel, by decide +kernel⟩
theorem Lt.len {z : Str} {n : Nat} (h : Lt z n) : z.length = n := h.1
theorem Lt.at {z : Str} {n r : Nat} (h : Lt z n) (hr : r < n) : ∃ c, L2.atI z.cps.toList (r : Int) = some c ∧ Sg ⟨#[c]⟩ := by
  rw [atI_eq]
  have hl : r < z.cps.toList.length := by rw [Array.length_toList, h.1]; exact hr
  rw [List.getElem?_eq_getElem hl]
  obtain ⟨h1, h2⟩ := h.2 _ (List.getElem_mem hl)
  exact ⟨_, rfl, _, rfl, h1, h2⟩
theorem cps_app (x y : Str) : (x ++ y).cps.toList = x.cps.toList ++ y.cps.toList := by
  show (x.cps ++ y.cps).toList = _
  simp
theorem Lt.app {z : Str} {n : Nat} (h : Lt z n) {c : Nat} (hc : Sg ⟨#[c]⟩) : Lt (z ++ ⟨#[c]⟩) (n + 1) := by
  obtain ⟨c', e, h1, h2⟩ := hc
  cases e
  refine ⟨?_, fun d hd => ?_⟩
  · rw [← Array.length_toList, cps_app, List.length_append, Array.length_toList, h.1]; rfl
  · rw [cps_app] at hd
    rcases List.mem_append.mp hd with hd | hd
    · exact h.2 d hd
    · have : d = c := by simpa using hd
      subst this; exact ⟨h1, h2⟩
theorem cps_cut (z : Str) (lo hi : Option Int) : (L2.cutS z lo hi).cps.toList = cutA z.cps.toList lo hi := by
  unfold L2.cutS cutA
  simp [PySem.Str.length]
theorem Lt.cut {z : Str} {n r : Nat} (h : Lt z (n + 1)) (hr : r < n + 1) : Lt (L2.cutS z none (some (r : Int)) ++ L2.cutS z (some ((r : Int) + 1)) none) n := by
  have e : (L2.cutS z none (some (r : Int)) ++ L2.cutS z (some ((r : Int) + 1)) none).cps.toList = z.cps.toList.take r ++ z.cps.toList.drop (r + 1) := by
    rw [cps_app, cps_cut, cps_cut, cutA_to, show ((r : Int) + 1) = ((r + 1 : Nat) : Int) by omega, cutA_from]
  refine ⟨?_, fun c hc => ?_⟩
  · rw [← Array.length_toList, e, List.length_append, List.length_take, List.length_drop, Array.length_toList, h.1]; omega
  · rw [e] at hc
    rcases List.mem_append.mp hc with hc | hc
    · exact h.2 c (List.mem_of_mem_take hc)
    · exact h.2 c (List.mem_of_mem_drop hc)
theorem Lt.cut_len {z : Str} {n r : Nat} (h : Lt z (n + 1)) (hr : r < n + 1) : (L2.cutS z none (some (r : Int))).length + (L2.cutS z (some ((r : Int) + 1)) none).length ≤ LIM ∨ ¬ n ≤ 100 := by
  have h1 := L2.cutS_length z none (some (r : Int))
  have h2 := L2.cutS_length z (some ((r : Int) + 1)) none
  rw [h.len] at h1 h2
  show _ ≤ 100000 ∨ _
  omega
theorem letters_loop {z : Str} : ∀ (n : Nat), n ≤ 26 → ∀ (h : List Int), Hd h → ∃ f h' e3 e4 z', sForL (tgN 3) B__law_letters_l1 (rngD 0 n) [some (dI h), some (.str (Str.ofString "abcdefghijklmnopqrstuvwxyz")), some (.str (Str.ofString "")), none, none] = .ok .nx [some (dI h'), some (.str z'), some (.str f), e3, e4] ∧ Hd h' ∧ Lt f n := by
  intro n hn h hh
  obtain ⟨e', h1, h', z', f, e3, e4, h2, h3, h4, h5⟩ := for_inv (tg := tgN 3) (b := B__law_letters_l1) (ds := rngD 0 n) (e := [some (dI h), some (.str (Str.ofString "abcdefghijklmnopqrstuvwxyz")), some (.str (Str.ofString "")), none, none])
    (fun i e => ∃ h' z' f e3 e4, e = [some (dI h'), some (.str z'), some (.str f), e3, e4] ∧ Hd h' ∧ Lt f i ∧ (i ≤ 26 → Lt z' (26 - i)))
    ⟨h, _, _, none, none, rfl, hh, lt_nil, fun _ => lt_all⟩ (fun i d e hd hi => by
      obtain ⟨h', z', f, e3, e4, rfl, hh', hf, hz⟩ := hi
      have hi : i < n := by
        have := (List.getElem?_eq_some_iff.mp hd).1
        rw [rngD_len] at this; exact this
      have hz := hz (by omega)
      obtain ⟨r, h'', t1, t2, t3⟩ := take_ok (m := (26 - i : Nat)) hh' (by omega) (by omega)
      obtain ⟨c, c1, c2⟩ := hz.at (r := r) (by omega)
      have hz' : Lt z' ((25 - i) + 1) := by rw [show 25 - i + 1 = 26 - i by omega]; exact hz
      have cl := (hz'.cut_len (r := r) (by omega)).resolve_right (by omega)
      have l1 : z'.length ≤ LIM := by rw [hz.len]; show _ ≤ 100000; omega
      have l2 : f.length + (⟨#[c]⟩ : Str).length ≤ LIM := by
        rw [hf.len]; show i + 1 ≤ 100000; omega
      refine ⟨_, _, .nx, rfl, ?_, .inl rfl, ⟨h'', L2.cutS z' none (some (r : Int)) ++ L2.cutS z' (some ((r : Int) + 1)) none, f ++ ⟨#[c]⟩, some d, some (.int r), rfl, t3, hf.app c2, fun _ => by
        have := hz'.cut (r := r) (by omega)
        rw [show 26 - (i + 1) = 25 - i by omega]; exact this⟩⟩
      have t1' : F__law_take [dI h', .int (z'.length : Int)] = .ok (.int r) (dI h'') := by rw [hz.len]; exact t1
      simp [B__law_letters_l1, l1, t1', c1, l2, cl])
  rw [rngD_len] at h4
  exact ⟨f, h', e3, e4, z', by rw [h1, h2], h3, h4⟩
theorem letters_ok {h : List Int} (hh : Hd h) : ∃ z n h', F__law_letters [dI h] = .ok (.str z) (dI h') ∧ Lt z n ∧ 2 ≤ n ∧ n ≤ 26 ∧ Hd h' := by
  obtain ⟨r, h1, t1, t2, t3⟩ := take_ok (m := 4) hh (by decide) (by decide)
  have hsz : (4 : Nat) ≤ PySem.sizeLine := by decide
  obtain ⟨n, hn1, hn2, hn3⟩ : ∃ n : Nat, L2.atI [D.int 2, D.int 3, D.int 5, D.int 26] (r : Int) = some (.int n) ∧ 2 ≤ n ∧ n ≤ 26 := by
    rw [atI_eq]
    have : r = 0 ∨ r = 1 ∨ r = 2 ∨ r = 3 := by omega
    rcases this with rfl | rfl | rfl | rfl
    · exact ⟨2, rfl, by decide, by decide⟩
    · exact ⟨3, rfl, by decide, by decide⟩
    · exact ⟨5, rfl, by decide, by decide⟩
    · exact ⟨26, rfl, by decide, by decide⟩
  obtain ⟨f, h', e3, e4, z', h2, h3, h4⟩ := letters_loop (z := default) n hn3 h1 t3
  have hs : smallI (n : Int) = true := decide_eq_true (by omega)
  refine ⟨f, n, h', ?_, h4, hn2, hn3, h3⟩
  simp [F__law_letters, r_runF, B__law_letters, t1, hsz, hn1, hs, h2]
end Ov
namespace Ov
open PySem (Str)
open MV
theorem sign_at {z : Str} {n : Nat} (hz : Lt z n) (hn : 2 ≤ n) (hn2 : n ≤ 26) {h : List Int} (hh : Hd h) : ∃ r h' x, F__law_take [dI h, .int (z.length : Int)] = .ok (.int r) (dI h') ∧ Hd h' ∧ gIx (.str z) (.int r) = some (.str x) ∧ Sg x := by
  obtain ⟨r, h', t1, t2, t3⟩ := take_ok (m := n) hh (by omega) (by omega)
  obtain ⟨c, c1, c2⟩ := hz.at (r := r) (by omega)
  refine ⟨r, h', ⟨#[c]⟩, by rw [hz.len]; exact t1, t3, ?_, c2⟩
  have l1 : z.length ≤ LIM := by rw [hz.len]; show _ ≤ 100000; omega
  simp [l1, c1]
theorem signs_ok {z : Str} {n : Nat} (hz : Lt z n) (hn : 2 ≤ n) (hn2 : n ≤ 26) {h : List Int} (hh : Hd h) {m : Nat} (hm : m ≤ 1000) : ∃ t h', F__law_signs [dI h, .str z, .int m] = .ok (dT t) (dI h') ∧ Tx t ∧ t.length = m ∧ Hd h' := by
  obtain ⟨acc, e', h1, ⟨t, h', rfl, rfl, q1, q2, q3⟩⟩ := lc_inv (is := [3]) (tg := tgN 3) (t := tTrue) (fe := e2 gIx (eV 1) (eCallW F__law_take 0 (aCons (eN gLen (aCons (eV 1) aNil)) aNil))) (ds := rngD 0 m)
    (fun i acc e => ∃ t h', acc = t.map .str ∧ e = [some (dI h'), some (.str z), some (.int m), none] ∧ Tx t ∧ t.length = i ∧ Hd h')
    [] [some (dI h), some (.str z), some (.int m), none] ⟨[], h, rfl, rfl, (fun _ hx => by cases hx), rfl, hh⟩ (by rw [rngD_len]; show 0 + m ≤ 100000; omega)
    (fun i d acc e hd hi => by
      obtain ⟨t, h', rfl, rfl, q1, q2, q3⟩ := hi
      obtain ⟨r, h2, x, t1, t2, t3, t4⟩ := sign_at hz hn hn2 q3
      have l1 : z.length ≤ LIM := by rw [hz.len]; show _ ≤ 100000; omega
      refine ⟨_, _, true, rfl, rfl, fun _ => ⟨.str x, [some (dI h2), some (.str z), some (.int m), some d], ?_, t ++ [x], h2, by simp, rfl, q1.append (fun y hy => by rw [List.mem_singleton.mp hy]; exact t4), by simp [q2], t2⟩, fun h => by cases h⟩
      rw [gIx_s, if_pos l1] at t3
      simp [l1, t1, t3, -Option.map_eq_some_iff])
  rw [rngD_len] at q2
  refine ⟨t, h', ?_, q1, q2, q3⟩
  have hs : smallI (m : Int) = true := small_of (by omega) (by omega)
  simp only [F__law_signs, r_runF, B__law_signs]
  simp [hs, h1]
def bord (t : List Str) : List Nat := (List.range t.length).filter fun k => decide (t.take k = t.drop (t.length - k))
theorem ends_val {t : List Str} (ht : Tx t) (hl : t.length ≤ 1000) : F__law_ends [dT t] = .ok (dN (bord t)) (dT t) := by
  have hs : smallI (t.length : Int) = true := small_of (by omega) (by omega)
  have h1 := lc_nat (is := [1]) (tg := tgN 1) (t := tB (e2 gEq (eSl (eV 0) oNone (oSome (eV 1))) (eSl (eV 0) (oSome (e2 gSub (eN gLen (aCons (eV 0) aNil)) (eV 1))) oNone))) (fe := eV 1) (e := [some (dT t), none]) (fun k => decide (t.take k = t.drop (t.length - k))) (fun k => .int (k : Int)) (List.range t.length) (by rw [List.length_range]; show _ ≤ 100000; omega)
    (fun k hk => by
      rw [List.mem_range] at hk
      refine ⟨_, [some (dT t), some (.int k)], rfl, ?_, fun _ => ⟨_, rfl, rfl⟩, fun _ => rfl⟩
      have e1 : ((t.length : Int) - (k : Int)) = ((t.length - k : Nat) : Int) := by omega
      simp [cutA_map, cutA_to, e1, cutA_from, gEq_dT (ht.take k).ok (ht.drop (t.length - k)).ok, -List.map_take, -List.map_drop])
  simp only [F__law_ends, r_runF, B__law_ends]
  simp [hs, rng0, h1, bord]
end Ov
namespace Ov
open PySem (Str)
open MV
theorem bord_pos {t : List Str} (h : t ≠ []) : 0 < (bord t).length := by
  apply List.length_pos_of_mem (a := 0)
  unfold bord
  rw [List.mem_filter, List.mem_range]
  refine ⟨List.length_pos_iff.mpr h, ?_⟩
  simp
theorem bord_lt {t : List Str} {k : Nat} (h : k ∈ bord t) : k < t.length := by
  unfold bord at h
  rw [List.mem_filter, List.mem_range] at h
  exact h.1
theorem bord_len (t : List Str) : (bord t).length ≤ t.length := by
  unfold bord
  exact Nat.le_trans (List.length_filter_le _ _) (by rw [List.length_range]; exact Nat.le_refl _)
theorem laid_ok {w : List Str} (hw : Tx w) (hw0 : w ≠ []) {most : Nat} (hm : w.length ≤ most) (hm2 : most ≤ 1000) {h : List Int} (hh : Hd h) : ∃ t h', F__law_laid [dI h, dT w, .int most] = .ok (dT t) (dI h') ∧ Tx t ∧ w.length ≤ t.length ∧ t.length ≤ most ∧ Hd h' := by
  obtain ⟨r0, h0, a1, a2, a3⟩ := take_ok (m := 6) hh (by decide) (by decide)
  have hs : smallI (1 + (r0 : Int)) = true := small_of (by omega) (by omega)
  have hb := bord_pos hw0
  have hbl := bord_len w
  obtain ⟨e', h1, h', f, e5, e6, rfl, q1, q2, q3, q4⟩ := for_inv (tg := tgN 5) (b := B__law_laid_l1) (ds := rngD 0 (1 + (r0 : Int)).toNat) (e := [some (dI h0), some (dT w), some (.int most), some (dT w), some (dN (bord w)), none, none])
    (fun _ e => ∃ h' f e5 e6, e = [some (dI h'), some (dT w), some (.int most), some (dT f), some (dN (bord w)), e5, e6] ∧ Hd h' ∧ Tx f ∧ w.length ≤ f.length ∧ f.length ≤ most)
    ⟨h0, w, none, none, rfl, a3, hw, Nat.le_refl _, hm⟩
    (fun i d e hd hi => by
      obtain ⟨h', f, e5, e6, rfl, q1, q2, q3, q4⟩ := hi
      obtain ⟨r, h2, t1, t2, t3⟩ := take_ok (m := ((bord w).length : Nat)) q1 (by omega) (by omega)
      have hr : r < (bord w).length := by omega
      have hat : L2.atI ((bord w).map fun k : Nat => D.int (k : Int)) (r : Int) = some (.int ((bord w)[r] : Nat)) := by
        rw [atI_eq, List.getElem?_map, List.getElem?_eq_getElem hr]; rfl
      have hlt := bord_lt (List.getElem_mem hr)
      generalize (bord w)[r] = k at hat hlt
      by_cases hc : (f.length : Int) + (w.length : Int) - (k : Int) ≤ (most : Int)
      · refine ⟨_, [some (dI h2), some (dT w), some (.int most), some (dT (f ++ w.drop k)), some (dN (bord w)), some d, some (.int k)], .nx, rfl, ?_, .inl rfl, h2, f ++ w.drop k, _, _, rfl, t3, q2.append (hw.drop k), ?_, ?_⟩
        · have hL : f.length + (w.length - k) ≤ LIM := by show _ ≤ 100000; omega
          simp [B__law_laid_l1, t1, hat, hc, cutA_map, cutA_from, hL, ← List.map_drop, ← List.map_append, -List.map_append, flat_dT, List.all_map]
          rw [List.map_append]
        · rw [List.length_append]; omega
        · rw [List.length_append, List.length_drop]; omega
      · refine ⟨_, [some (dI h2), some (dT w), some (.int most), some (dT f), some (dN (bord w)), some d, some (.int k)], .nx, rfl, ?_, .inl rfl, h2, f, _, _, rfl, t3, q2, q3, q4⟩
        simp [B__law_laid_l1, t1, hat, hc])
  refine ⟨f, h', ?_, q2, q3, q4, q1⟩
  simp only [F__law_laid, r_runF, B__law_laid]
  simp [ends_val hw (by omega), a1, hs, h1, List.all_map]
theorem text_loop {z : Str} {most : Nat} (hm2 : most ≤ 1000) (n : Nat) {h : List Int} (hh : Hd h) {t : List Str} (ht : Tx t) (ht0 : 0 < t.length) (htm : t.length ≤ most) : ∃ h' t' e4, sForL (tgN 4) B__law_text_l1 (rngD 0 n) [some (dI h), some (.str z), some (.int most), some (dT t), none, none, none] = .ok .nx [some (dI h'), some (.str z), some (.int most), some (dT t'), e4, none, none] ∧ Hd h' ∧ Tx t' ∧ 0 < t'.length ∧ t'.length ≤ most := by
  obtain ⟨e', h1, h', t', e4, rfl, q⟩ := for_inv (tg := tgN 4) (b := B__law_text_l1) (ds := rngD 0 n) (e := [some (dI h), some (.str z), some (.int most), some (dT t), none, none, none])
    (fun _ e => ∃ h' t' e4, e = [some (dI h'), some (.str z), some (.int most), some (dT t'), e4, none, none] ∧ Hd h' ∧ Tx t' ∧ 0 < t'.length ∧ t'.length ≤ most)
    ⟨h, t, none, rfl, hh, ht, ht0, htm⟩
    (fun i d e hd hi => by
      obtain ⟨h', t', e4, rfl, q1, q2, q3, q4⟩ := hi
      obtain ⟨t2, h2, a1, a2, a3, a4, a5⟩ := laid_ok q2 (List.length_pos_iff.mp q3) q4 hm2 q1
      refine ⟨_, [some (dI h2), some (.str z), some (.int most), some (dT t2), some d, none, none], .nx, rfl, ?_, .inl rfl, h2, t2, _, rfl, a5, a2, by omega, a4⟩
      simp [B__law_text_l1, a1, List.all_map])
  exact ⟨h', t', e4, h1, q⟩
theorem text_ok {z : Str} {n : Nat} (hz : Lt z n) (hn : 2 ≤ n) (hn2 : n ≤ 26) {h : List Int} (hh : Hd h) : ∃ t h', F__law_text [dI h, .str z] = .ok (dT t) (dI h') ∧ Tx t ∧ t.length ≤ 200 ∧ Hd h' := by
  obtain ⟨r1, h1, a1, a2, a3⟩ := take_ok (m := 16) hh (by decide) (by decide)
  obtain ⟨r2, h2, b1, b2, b3⟩ := take_ok (m := 4) a3 (by decide) (by decide)
  have hsz : (2 : Nat) ≤ PySem.sizeLine := by decide
  have hsz5 : (5 : Nat) ≤ PySem.sizeLine := by decide
  obtain ⟨most, hmo, hm1, hm2⟩ : ∃ most : Nat, L2.atI [D.int 40, D.int 200] (if (r1 : Int) = 3 then 1 else 0) = some (.int most) ∧ 40 ≤ most ∧ most ≤ 200 := by
    by_cases hc : (r1 : Int) = 3
    · rw [if_pos hc]; exact ⟨200, rfl, by decide, by decide⟩
    · rw [if_neg hc]; exact ⟨40, rfl, by decide, by decide⟩
  by_cases hr : r2 = 0
  · subst hr
    obtain ⟨r3, h3, c1, c2, c3⟩ := take_ok (m := most + 1) b3 (by omega) (by omega)
    obtain ⟨t, h4, d1, d2, d3, d4⟩ := signs_ok hz hn hn2 c3 (m := r3) (by omega)
    refine ⟨t, h4, ?_, d2, by omega, d4⟩
    simp only [F__law_text, r_runF, B__law_text]
    simp [a1, hsz, hmo, b1, c1, d1]
  · obtain ⟨r3, h3, c1, c2, c3⟩ := take_ok (m := 4) b3 (by decide) (by decide)
    obtain ⟨t, h4, d1, d2, d3, d4⟩ := signs_ok hz hn hn2 c3 (m := 1 + r3) (by omega)
    obtain ⟨r5, h5, f1, f2, f3⟩ := take_ok (m := 4) d4 (by decide) (by decide)
    obtain ⟨h6, t', e4, g1, g2, g3, g4, g5⟩ := text_loop (z := z) (most := most) (by omega) (1 + (r5 : Int)).toNat f3 d2 (by omega) (by omega)
    obtain ⟨r7, h7, i1, i2, i3⟩ := take_ok (m := 5) g2 (by decide) (by decide)
    obtain ⟨r8, h8, j1, j2, j3⟩ := take_ok (m := t'.length) i3 (by omega) (by omega)
    obtain ⟨r9, h9, x, k1, k2, k3, k4⟩ := sign_at hz hn hn2 j3
    have l1 : z.length ≤ LIM := by rw [hz.len]; show _ ≤ 100000; omega
    have hs : smallI (1 + (r5 : Int)) = true := small_of (by omega) (by omega)
    have hj : r8 < t'.length := by omega
    rw [gIx_s, if_pos l1] at k3
    have d1' : F__law_signs [dI h3, .str z, .int (1 + (r3 : Int))] = .ok (dT t) (dI h4) := by
      rw [show (1 + (r3 : Int)) = ((1 + r3 : Nat) : Int) by omega]; exact d1
    have e8 : ((r8 : Int) + 1) = ((r8 + 1 : Nat) : Int) := by omega
    have hr' : ¬ (r2 : Int) = 0 := by omega
    have h7c : r7 = 0 ∨ r7 = 1 ∨ r7 = 2 ∨ r7 = 3 ∨ r7 = 4 := by omega
    rcases h7c with rfl | rfl | rfl | rfl | rfl
    · refine ⟨t', h8, ?_, g3, by omega, j3⟩
      simp only [F__law_text, r_runF, B__law_text]
      simp [a1, hsz, hsz5, hmo, b1, hr, c1, d1', f1, hs, g1, i1, j1, List.all_map]
    · refine ⟨t'.set r8 x, h9, ?_, g3.set k4 r8, by rw [List.length_set]; omega, k2⟩
      simp only [F__law_text, r_runF, B__law_text]
      simp [a1, hsz, hsz5, hmo, b1, hr, c1, d1', f1, hs, g1, i1, j1, l1, k1, k3, ixN_nat hj, List.all_map, List.map_set, -Option.map_eq_some_iff]
    · refine ⟨t'.take (r8 + 1), h8, ?_, g3.take _, by rw [List.length_take]; omega, j3⟩
      simp only [F__law_text, r_runF, B__law_text]
      simp [a1, hsz, hsz5, hmo, b1, hr, c1, d1', f1, hs, g1, i1, j1, List.all_map, cutA_map, cutA_to1]
    · refine ⟨t'.drop r8, h8, ?_, g3.drop _, by rw [List.length_drop]; omega, j3⟩
      simp only [F__law_text, r_runF, B__law_text]
      simp [a1, hsz, hsz5, hmo, b1, hr, c1, d1', f1, hs, g1, i1, j1, List.all_map, cutA_map, cutA_from]
    · refine ⟨t', h8, ?_, g3, by omega, j3⟩
      simp only [F__law_text, r_runF, B__law_text]
      simp [a1, hsz, hsz5, hmo, b1, hr, c1, d1', f1, hs, g1, i1, j1, List.all_map]
end Ov
namespace Ov
open PySem (Str)
open MV
theorem sg_in {x : Str} (h : Sg x) : x.length = 1 ∧ gNotIn (.str x) (.str (Str.ofString "abcdefghijklmnopqrstuvwxyz")) = some (.bl false) := by
  obtain ⟨c, rfl, h1, h2⟩ := h
  refine ⟨rfl, ?_⟩
  have : ∀ c : Nat, 97 ≤ c → c ≤ 122 → c ∈ (Str.ofString "abcdefghijklmnopqrstuvwxyz").cps.toList := by
    have : ∀ k : Fin 26, (97 + k.val) ∈ (Str.ofString "abcdefghijklmnopqrstuvwxyz").cps.toList := by decide +kernel
    intro c h1 h2
    have := this ⟨c - 97, by omega⟩
    simpa [show 97 + (c - 97) = c by omega] using this
  have := this c h1 h2
  show (inOk _ _).map _ = _
  unfold inOk
  simp [this]
theorem need_signs_val {t : List Str} (ht : Tx t) (hl : t.length ≤ LIM) : F_need_signs [dT t] = .ok .non (dT t) := by
  have h1 := lc_pure (is := [1]) (tg := tgN 1) (t := tOr2 (tB (e2 gNe (eN gLen (aCons (eV 1) aNil)) (eC (.int 1)))) (tB (e2 gNotIn (eV 1) (eC (.str (Str.ofString "abcdefghijklmnopqrstuvwxyz")))))) (fe := eV 1) (e := [some (dT t), none]) (φ := D.str) (p := fun _ => false) (g := D.str) t [] (by simpa using hl)
    (fun x hx => ⟨_, [some (dT t), some (.str x)], rfl, by
      obtain ⟨q1, q2⟩ := sg_in (ht x hx)
      have l1 : (1 : Nat) ≤ LIM := by decide
      simp [q1, l1, q2], (fun h => by cases h), fun _ => rfl⟩)
  rw [filter_no] at h1
  simp only [F_need_signs, r_runF, B_need_signs]
  simp [h1, hsz0]
theorem need_word_val {w : List Str} (hw : Tx w) (h0 : w ≠ []) : F_need_word [dT w] = .ok .non (dT w) := by
  simp only [F_need_word, r_runF, B_need_word]
  simp [hsz0, gEq_nT hw.ok, h0]
def lies (t w : List Str) : List Nat := (List.range (t.length + 1 - w.length)).filter fun p => decide ((t.drop p).take w.length = w)
theorem lies_lt {t w : List Str} {p : Nat} (h : p ∈ lies t w) : p + w.length ≤ t.length := by
  unfold lies at h
  rw [List.mem_filter, List.mem_range] at h
  omega
theorem lies_len (t w : List Str) : (lies t w).length ≤ t.length + 1 := by
  unfold lies
  exact Nat.le_trans (List.length_filter_le _ _) (by rw [List.length_range]; omega)
theorem laid_at_val {t w : List Str} (ht : Tx t) (hw : Tx w) (hl : t.length ≤ 1000) (hl2 : w.length ≤ 1000) : F_laid_at [dT t, dT w] = .ok (dN (lies t w)) (dT t) := by
  have hs : smallI ((t.length : Int) - (w.length : Int) + 1) = true := small_of (by omega) (by omega)
  have h1 := lc_nat (is := [3]) (tg := tgN 3) (t := tB (e2 gEq (eSl (eV 0) (oSome (eV 3)) (oSome (e2 gAdd (eV 3) (eV 2)))) (eV 1))) (fe := eV 3) (e := [some (dT t), some (dT w), some (.int w.length), none]) (fun p => decide ((t.drop p).take w.length = w)) (fun k => .int (k : Int)) (List.range (t.length + 1 - w.length)) (by rw [List.length_range]; show _ ≤ 100000; omega)
    (fun k hk => by
      refine ⟨_, [some (dT t), some (dT w), some (.int w.length), some (.int k)], rfl, ?_, fun _ => ⟨_, rfl, rfl⟩, fun _ => rfl⟩
      have := gEq_dT ((ht.drop k).take w.length).ok hw.ok
      simp [cutA_map, cutA_mid2, this, -List.map_take, -List.map_drop])
  have e1 : ((t.length : Int) - (w.length : Int) + 1).toNat = t.length + 1 - w.length := by omega
  simp only [F_laid_at, r_runF, B_laid_at]
  simp [hs, rng0, e1, h1, lies]
theorem lies_at_val {t w : List Str} (ht : Tx t) (hw : Tx w) (h0 : w ≠ []) (hl : t.length ≤ 1000) (hl2 : w.length ≤ 1000) : F_lies_at [dT t, dT w] = .ok (dN (lies t w)) (dT t) := by
  have hL : t.length + w.length ≤ LIM := by show _ ≤ 100000; omega
  have hn := need_signs_val (ht.append hw) (by rw [List.length_append]; exact hL)
  simp only [F_lies_at, r_runF, B_lies_at]
  have hn : F_need_signs [.lst (t.map D.str ++ w.map D.str)] = .ok .non (dT (t ++ w)) := by rw [← List.map_append]; exact hn
  simp [need_word_val hw h0, hL, hn, laid_at_val ht hw hl hl2]
theorem take_drop_iff {t w : List Str} {p : Nat} (h : p + w.length ≤ t.length) : (t.drop p).take w.length = w ↔ ∀ k, k < w.length → t[p + k]? = w[k]? := by
  constructor
  · intro e k hk
    rw [← List.getElem?_drop]
    conv => rhs; rw [← e]
    rw [List.getElem?_take, if_pos hk]
  · intro e
    apply List.ext_getElem?
    intro k
    rw [List.getElem?_take]
    by_cases hk : k < w.length
    · rw [if_pos hk, List.getElem?_drop]; exact e k hk
    · rw [if_neg hk, List.getElem?_eq_none (by omega)]
theorem law_lies_row {t w : List Str} {p : Nat} (h : p + w.length ≤ t.length) (hl : t.length ≤ 1000) {f : List Nat} (hf : f.length ≤ 1000) : B__law_lies_l1 [some (dT t), some (dT w), some (dN f), some (.int p), none] = .ok .nx [some (dT t), some (dT w), some (dN (f ++ if (t.drop p).take w.length = w then [p] else [])), some (.int p), none] := by
  have hs : smallI (w.length : Int) = true := small_of (by omega) (by omega)
  have h1 := lc_nat (is := [4]) (tg := tgN 4) (t := tB (e2 gNe (e2 gIx (eV 0) (e2 gAdd (eV 3) (eV 4))) (e2 gIx (eV 1) (eV 4)))) (fe := eV 4) (e := [some (dT t), some (dT w), some (dN f), some (.int p), none]) (fun k => !decide (t[p + k]? = w[k]?)) (fun k => .int (k : Int)) (List.range w.length) (by rw [List.length_range]; show _ ≤ 100000; omega)
    (fun k hk => by
      rw [List.mem_range] at hk
      refine ⟨_, [some (dT t), some (dT w), some (dN f), some (.int p), some (.int k)], rfl, ?_, fun _ => ⟨_, rfl, rfl⟩, fun _ => rfl⟩
      have e1 : ((p : Int) + (k : Int)) = ((p + k : Nat) : Int) := by omega
      have a1 : L2.atI (t.map D.str) ((p : Int) + (k : Int)) = some (.str (t[p + k]'(by omega))) := by
        rw [e1, atI_eq, List.getElem?_map, List.getElem?_eq_getElem (by omega)]; rfl
      have a2 : L2.atI (w.map D.str) (k : Int) = some (.str (w[k]'hk)) := by
        rw [atI_eq, List.getElem?_map, List.getElem?_eq_getElem hk]; rfl
      simp [a1, a2]
      rw [List.getElem?_eq_getElem (by omega : p + k < t.length), List.getElem?_eq_getElem hk, Option.some_inj])
  have hc : ((List.range w.length).filter (fun k => !decide (t[p + k]? = w[k]?)) = []) ↔ ((t.drop p).take w.length = w) := by
    rw [take_drop_iff h, List.filter_eq_nil_iff]
    simp
  have he : gEq (dN ((List.range w.length).filter fun k => !decide (t[p + k]? = w[k]?))) (.lst []) = some (.bl (decide ((t.drop p).take w.length = w))) := by
    rw [gEq_nN, decide_eq_decide.mpr hc]
  have hL : f.length < LIM := by show _ < 100000; omega
  by_cases q : (t.drop p).take w.length = w
  · rw [decide_eq_true q] at he
    rw [if_pos q]
    simp [B__law_lies_l1, hs, rng0, h1, he, hsz0, hL]
  · rw [decide_eq_false q] at he
    rw [if_neg q]
    simp [B__law_lies_l1, hs, rng0, h1, he, hsz0]
theorem range_filter_succ (p : Nat → Bool) (n : Nat) : (List.range (n + 1)).filter p = (List.range n).filter p ++ if p n = true then [n] else [] := by
  rw [List.range_succ, List.filter_append]
  by_cases h : p n = true
  · simp [h]
  · simp [h]
theorem law_lies_val {t w : List Str} (hl : t.length ≤ 900) (hl2 : w.length ≤ 1000) : F__law_lies [dT t, dT w] = .ok (dN (lies t w)) (dT t) := by
  have hs : smallI ((t.length : Int) - (w.length : Int) + 1) = true := small_of (by omega) (by omega)
  have e1 : ((t.length : Int) - (w.length : Int) + 1).toNat = t.length + 1 - w.length := by omega
  obtain ⟨e', h1, e3, rfl⟩ := for_inv (tg := tgN 3) (b := B__law_lies_l1) (ds := rngD 0 (t.length + 1 - w.length)) (e := [some (dT t), some (dT w), some (dN []), none, none])
    (fun i e => ∃ e3, e = [some (dT t), some (dT w), some (dN ((List.range i).filter fun p => decide ((t.drop p).take w.length = w))), e3, none])
    ⟨none, rfl⟩
    (fun i d e hd hi => by
      obtain ⟨e3, rfl⟩ := hi
      obtain ⟨q1, rfl⟩ := rng0_get hd
      refine ⟨_, _, .nx, rfl, law_lies_row (by omega) (by omega) (Nat.le_trans (List.length_filter_le _ _) (by rw [List.length_range]; omega)), .inl rfl, some (.int i), ?_⟩
      rw [range_filter_succ]
      simp)
  rw [rngD_len] at h1
  have h1 : sForL (tgN 3) B__law_lies_l1 (rngD 0 (t.length + 1 - w.length)) [some (dT t), some (dT w), some (.lst []), none, none] = _ := h1
  simp only [F__law_lies, r_runF, B__law_lies]
  simp [hs, e1, h1, hsz0, lies]
end Ov
namespace Ov
open PySem (Str PyData)
open MV
theorem Tx.cut {t : List Str} (h : Tx t) (lo hi : Option Int) : Tx (cutA t lo hi) := by
  unfold cutA; exact (Tx.drop h _).take _
end Ov
namespace Ov
open PySem (Str)
open MV
section
variable {α : Type} [DecidableEq α]
def isB (t : List α) (n k : Nat) : Prop := k < n ∧ n ≤ t.length ∧ ∀ j, j < k → t[j]? = t[n - k + j]?
def isG (t : List α) (n g : Nat) : Prop := isB t n g ∧ ∀ k, isB t n k → k ≤ g
variable {t : List α} {n k m g : Nat}
theorem isB_zero (h : 0 < n) (h2 : n ≤ t.length) : isB t n 0 := ⟨h, h2, fun j hj => by omega⟩
theorem isB_trans (h : isB t n k) (h2 : isB t k m) : isB t n m := by
  obtain ⟨a1, a2, a3⟩ := h
  obtain ⟨b1, b2, b3⟩ := h2
  refine ⟨by omega, a2, fun j hj => ?_⟩
  rw [b3 j hj, a3 (k - m + j) (by omega)]
  congr 1; omega
theorem isB_down (h : isB t n k) (h2 : isB t n m) (hl : m < k) : isB t k m := by
  obtain ⟨a1, a2, a3⟩ := h
  obtain ⟨b1, b2, b3⟩ := h2
  refine ⟨hl, by omega, fun j hj => ?_⟩
  rw [b3 j hj, a3 (k - m + j) (by omega)]
  congr 1; omega
theorem isB_succ (hn : n < t.length) : isB t (n + 1) (k + 1) ↔ isB t n k ∧ t[k]? = t[n]? := by
  constructor
  · intro ⟨a1, a2, a3⟩
    refine ⟨⟨by omega, by omega, fun j hj => ?_⟩, ?_⟩
    · rw [a3 j (by omega)]; congr 1; omega
    · rw [a3 k (by omega)]; congr 1; omega
  · intro ⟨⟨a1, a2, a3⟩, a4⟩
    refine ⟨by omega, by omega, fun j hj => ?_⟩
    by_cases q : j = k
    · subst q; rw [a4]; congr 1; omega
    · rw [a3 j (by omega)]; congr 1; omega
theorem isG_one (h : 0 < t.length) : isG t 1 0 := ⟨isB_zero (by decide) h, fun k hk => by have := hk.1; omega⟩
theorem isB_iff (h : k < t.length) : isB t t.length k ↔ t.take k = t.drop (t.length - k) := by
  constructor
  · intro ⟨a1, a2, a3⟩
    apply List.ext_getElem?
    intro j
    rw [List.getElem?_take, List.getElem?_drop]
    by_cases q : j < k
    · rw [if_pos q]; exact a3 j q
    · rw [if_neg q, List.getElem?_eq_none (by omega)]
  · intro e
    refine ⟨h, Nat.le_refl _, fun j hj => ?_⟩
    have := congrArg (fun l => l[j]?) e
    simp only [List.getElem?_take, List.getElem?_drop] at this
    rw [if_pos hj] at this
    exact this
end
theorem filter_ge {p : Nat → Bool} {n k : Nat} (hk : k < n) (hp : p k = true) : (List.range n).filter (fun j => p j && decide (k ≤ j)) = k :: (List.range n).filter (fun j => p j && decide (k < j)) := by
  induction n with
  | zero => omega
  | succ n ih =>
    rw [range_filter_succ, range_filter_succ]
    by_cases q : k = n
    · subst q
      have e1 : (List.range k).filter (fun j => p j && decide (k ≤ j)) = [] := by
        rw [List.filter_eq_nil_iff]; intro j hj; rw [List.mem_range] at hj; simp; intro _; omega
      have e2 : (List.range k).filter (fun j => p j && decide (k < j)) = [] := by
        rw [List.filter_eq_nil_iff]; intro j hj; rw [List.mem_range] at hj; simp; intro _; omega
      rw [e1, e2]
      simp [hp]
    · rw [ih (by omega)]
      have h1 : k ≤ n := by omega
      have h2 : k < n := by omega
      simp [h1, h2]
end Ov
namespace Ov
open PySem (Str)
open MV
theorem enum_get {t : List Str} {i : Nat} {d : D} (h : (enumD (t.map D.str))[i]? = some d) : ∃ hi : i < t.length, d = .tup [.int (i : Int), .str t[i]] := by
  have hi : i < t.length := by
    have := (List.getElem?_eq_some_iff.mp h).1
    rw [enumD_len, List.length_map] at this; exact this
  refine ⟨hi, ?_⟩
  unfold enumD at h
  simp [hi] at h
  exact h.symm
theorem dT_at {t : List Str} {k : Nat} (h : k < t.length) : L2.atI (t.map D.str) (k : Int) = some (.str t[k]) := by
  rw [atI_eq, List.getElem?_map, List.getElem?_eq_getElem h]; rfl
theorem dN_at {l : List Nat} {k : Nat} (h : k < l.length) : L2.atI (l.map fun k : Nat => D.int (k : Int)) (k : Int) = some (.int (l[k] : Nat)) := by
  rw [atI_eq, List.getElem?_map, List.getElem?_eq_getElem h]; rfl
def Gs (t : List Str) (G : List Nat) (i : Nat) : Prop := G.length = i ∧ ∀ m, m < i → ∃ g, G[m]? = some g ∧ isG t (m + 1) g
theorem gb_while {t : List Str} {G : List Nat} {i k : Nat} (hl : t.length ≤ 1000) (hi : i < t.length) (h0 : 0 < i) (hG : Gs t G i) (hk : isG t i k) :
    ∃ k', sWhile T_greatest_borders_l1 B_greatest_borders_l2 WFUEL [some (dT t), some (dN G), some (.int k), some (.int i), some (.str t[i])] = .ok .nx [some (dT t), some (dN G), some (.int (k' : Nat)), some (.int i), some (.str t[i])] ∧ isB t i k' ∧ (∀ k2, isB t i k2 → t[k2]? = t[i]? → k2 ≤ k') ∧ (k' = 0 ∨ t[k']? = t[i]?) := by
  obtain ⟨e', h1, k', rfl, h2⟩ := while_inv (t := T_greatest_borders_l1) (b := B_greatest_borders_l2)
    (fun e => ∃ k' : Nat, e = [some (dT t), some (dN G), some (.int (k' : Nat)), some (.int i), some (.str t[i])] ∧ isB t i k' ∧ (∀ k2, isB t i k2 → t[k2]? = t[i]? → k2 ≤ k'))
    (fun e => match (e[2]? : Option (Option D)) with | some (some (D.int k)) => k.toNat | _ => 0)
    (fun e => ∃ k' : Nat, e = [some (dT t), some (dN G), some (.int (k' : Nat)), some (.int i), some (.str t[i])] ∧ isB t i k' ∧ (∀ k2, isB t i k2 → t[k2]? = t[i]? → k2 ≤ k') ∧ (k' = 0 ∨ t[k']? = t[i]?))
    (fun e he => by
      obtain ⟨k', rfl, q1, q2⟩ := he
      have hk' : k' < t.length := by have := q1.1; omega
      by_cases c1 : k' = 0
      · refine ⟨false, _, ?_, k', rfl, q1, q2, .inl c1⟩
        subst c1
        simp [T_greatest_borders_l1]
      · have c1' : 0 < k' := by omega
        by_cases c2 : t[k'] = t[i]
        · refine ⟨false, _, ?_, k', rfl, q1, q2, .inr (by rw [List.getElem?_eq_getElem hk', List.getElem?_eq_getElem hi, c2])⟩
          simp [T_greatest_borders_l1, c1', dT_at hk', c2]
        · obtain ⟨g, g1, g2⟩ := hG.2 (k' - 1) (by have := q1.1; omega)
          rw [show k' - 1 + 1 = k' by omega] at g2
          have hgl : k' - 1 < G.length := by have := q1.1; rw [hG.1]; omega
          have ga : L2.atI (G.map fun k : Nat => D.int (k : Int)) ((k' : Int) - 1) = some (.int (g : Nat)) := by
            rw [show ((k' : Int) - 1) = ((k' - 1 : Nat) : Int) by omega, dN_at hgl]
            rw [List.getElem?_eq_getElem hgl] at g1; rw [Option.some.inj g1]
          refine ⟨true, [some (dT t), some (dN G), some (.int (k' : Nat)), some (.int i), some (.str t[i])], ?_, ?_⟩
          · simp [T_greatest_borders_l1, c1', dT_at hk', c2]
          · rw [if_pos rfl]
            refine ⟨.nx, [some (dT t), some (dN G), some (.int (g : Nat)), some (.int i), some (.str t[i])], ?_, .inl rfl, ⟨g, rfl, isB_trans q1 g2.1, fun k2 b1 b2 => ?_⟩, ?_⟩
            · simp [B_greatest_borders_l2, ga]
            · have := q2 k2 b1 b2
              have ne : k2 ≠ k' := fun e => by
                subst e
                rw [List.getElem?_eq_getElem hk', List.getElem?_eq_getElem hi] at b2
                exact c2 (Option.some.inj b2)
              exact g2.2 _ (isB_down q1 b1 (by omega))
            · show (g : Int).toNat < (k' : Int).toNat
              have := g2.1.1; omega)
    WFUEL [some (dT t), some (dN G), some (.int k), some (.int i), some (.str t[i])] ⟨k, rfl, hk.1, fun k2 b1 _ => hk.2 k2 b1⟩ (by show (k : Int).toNat < 1000000; have := hk.1.1; omega)
  exact ⟨k', h1, h2⟩
theorem isG_next {t : List Str} {i k : Nat} (hi : i < t.length) (h1 : isB t i k) (h2 : ∀ k2, isB t i k2 → t[k2]? = t[i]? → k2 ≤ k) (h3 : k = 0 ∨ t[k]? = t[i]?) : isG t (i + 1) (k + if t[k]? = t[i]? then 1 else 0) := by
  by_cases c : t[k]? = t[i]?
  · rw [if_pos c]
    refine ⟨(isB_succ hi).mpr ⟨h1, c⟩, fun m hm => ?_⟩
    cases m with
    | zero => omega
    | succ m =>
      obtain ⟨a1, a2⟩ := (isB_succ hi).mp hm
      have := h2 m a1 a2; omega
  · rw [if_neg c]
    have hk : k = 0 := h3.resolve_right c
    subst hk
    refine ⟨isB_zero (by omega) (by omega), fun m hm => ?_⟩
    cases m with
    | zero => omega
    | succ m =>
      obtain ⟨a1, a2⟩ := (isB_succ hi).mp hm
      have := h2 m a1 a2
      have : m = 0 := by omega
      subst this; exact absurd a2 c
theorem gb_row {t : List Str} {G : List Nat} {i k : Nat} (hl : t.length ≤ 1000) (hi : i < t.length) (hG : Gs t G i) (hk : (i = 0 ∧ k = 0) ∨ isG t i k) :
    ∃ k', B_greatest_borders_l3 [some (dT t), some (dN G), some (.int k), some (.int i), some (.str t[i])] = .ok .nx [some (dT t), some (dN (G ++ [k'])), some (.int (k' : Nat)), some (.int i), some (.str t[i])] ∧ Gs t (G ++ [k']) (i + 1) ∧ isG t (i + 1) k' := by
  have hL : G.length < LIM := by rw [hG.1]; show _ < 100000; omega
  have gs : ∀ k', isG t (i + 1) k' → Gs t (G ++ [k']) (i + 1) := fun k' h => by
    refine ⟨by rw [List.length_append, hG.1]; rfl, fun m hm => ?_⟩
    by_cases q : m = i
    · subst q; exact ⟨k', by rw [List.getElem?_append_right (by rw [hG.1]; omega), hG.1]; simp, h⟩
    · obtain ⟨g, g1, g2⟩ := hG.2 m (by omega)
      exact ⟨g, by rw [List.getElem?_append_left (by rw [hG.1]; omega)]; exact g1, g2⟩
  rcases hk with ⟨rfl, rfl⟩ | hk
  · have : isG t (0 + 1) 0 := isG_one (by omega)
    refine ⟨0, ?_, gs 0 this, this⟩
    simp [B_greatest_borders_l3, hL]
  · have h0 : 0 < i := by have := hk.1.1; omega
    obtain ⟨k', w1, w2, w3, w4⟩ := gb_while hl hi h0 hG hk
    have hk' : k' < t.length := by have := w2.1; omega
    have g := isG_next hi w2 w3 w4
    refine ⟨k' + if t[k']? = t[i]? then 1 else 0, ?_, gs _ g, g⟩
    rw [List.getElem?_eq_getElem hk', List.getElem?_eq_getElem hi]
    by_cases c : t[k'] = t[i]
    · simp [B_greatest_borders_l3, h0, w1, dT_at hk', c, hL]
    · simp [B_greatest_borders_l3, h0, w1, dT_at hk', c, hL]
theorem gb_val {t : List Str} (hl : t.length ≤ 1000) : ∃ G, F_greatest_borders [dT t] = .ok (dN G) (dT t) ∧ Gs t G t.length := by
  obtain ⟨e', h1, G, k, e3, e4, rfl, q1, q2⟩ := for_inv (tg := tgT [3, 4]) (b := B_greatest_borders_l3) (ds := enumD (t.map D.str)) (e := [some (dT t), some (.lst []), some (.int 0), none, none])
    (fun i e => ∃ G k e3 e4, e = [some (dT t), some (dN G), some (.int (k : Nat)), e3, e4] ∧ Gs t G i ∧ ((i = 0 ∧ k = 0) ∨ isG t i k))
    ⟨[], 0, none, none, rfl, ⟨rfl, fun m hm => by omega⟩, .inl ⟨rfl, rfl⟩⟩
    (fun i d e hd hi => by
      obtain ⟨G, k, e3, e4, rfl, q1, q2⟩ := hi
      obtain ⟨hi, rfl⟩ := enum_get hd
      obtain ⟨k', a1, a2, a3⟩ := gb_row hl hi q1 q2
      exact ⟨_, _, .nx, rfl, a1, .inl rfl, _, k', _, _, rfl, a2, .inr a3⟩)
  rw [enumD_len, List.length_map] at q1
  refine ⟨G, ?_, q1⟩
  simp only [F_greatest_borders, r_runF, B_greatest_borders]
  simp [hsz0, h1]
theorem bord_eq {t : List Str} : ∀ k, k ∈ bord t ↔ isB t t.length k := fun k => by
  unfold bord
  rw [List.mem_filter, List.mem_range]
  constructor
  · intro ⟨h1, h2⟩
    exact (isB_iff h1).mpr (of_decide_eq_true h2)
  · intro h
    exact ⟨h.1, decide_eq_true ((isB_iff h.1).mp h)⟩
def bdUp (t : List Str) (k : Nat) : List Nat := ((List.range t.length).filter fun j => decide (t.take j = t.drop (t.length - j)) && decide (k < j)).reverse
theorem bdUp_snoc {t : List Str} {k : Nat} (h : isB t t.length k) : bdUp t k ++ [k] = ((List.range t.length).filter fun j => decide (t.take j = t.drop (t.length - j)) && decide (k ≤ j)).reverse := by
  rw [filter_ge h.1 (decide_eq_true ((isB_iff h.1).mp h)), List.reverse_cons]; rfl
theorem bdUp_step {t : List Str} {k g : Nat} (h : isB t t.length k) (hg : isG t k g) : bdUp t k ++ [k] = bdUp t g := by
  rw [bdUp_snoc h]
  unfold bdUp
  congr 1
  apply List.filter_congr
  intro j hj
  rw [List.mem_range] at hj
  by_cases c : t.take j = t.drop (t.length - j)
  · have hb := (isB_iff hj).mpr c
    have : k ≤ j ↔ g < j := by
      constructor
      · intro _; have := hg.1.1; omega
      · intro hlt
        by_cases q : k ≤ j
        · exact q
        · have := hg.2 j (isB_down h hb (by omega)); omega
    simp [this]
  · simp [c]
theorem bdUp_zero {t : List Str} (h : 0 < t.length) : (bdUp t 0 ++ [0]).reverse = bord t := by
  rw [bdUp_snoc (isB_zero h (Nat.le_refl _)), List.reverse_reverse]
  unfold bord
  simp
theorem bdUp_len (t : List Str) (k : Nat) : (bdUp t k).length ≤ t.length := by
  unfold bdUp
  rw [List.length_reverse]
  exact Nat.le_trans (List.length_filter_le _ _) (by rw [List.length_range]; exact Nat.le_refl _)
theorem bdUp_top {t : List Str} {g : Nat} (hg : isG t t.length g) : bdUp t g = [] := by
  unfold bdUp
  rw [List.reverse_eq_nil_iff, List.filter_eq_nil_iff]
  intro j hj
  rw [List.mem_range] at hj
  simp
  intro c
  exact hg.2 j ((isB_iff hj).mpr c)
theorem Gs.at {t : List Str} {G : List Nat} {i m : Nat} (h : Gs t G i) (hm : m < i) : ∃ g : Nat, L2.atI (G.map fun k : Nat => D.int (k : Int)) (m : Int) = some (.int (g : Nat)) ∧ isG t (m + 1) g := by
  obtain ⟨g, g1, g2⟩ := h.2 m hm
  have hgl : m < G.length := by rw [h.1]; exact hm
  refine ⟨g, ?_, g2⟩
  rw [dN_at hgl]
  rw [List.getElem?_eq_getElem hgl] at g1; rw [Option.some.inj g1]
theorem borders_val {t : List Str} (ht : Tx t) (hl : t.length ≤ 1000) : F_borders [dT t] = .ok (dN (bord t)) (dT t) := by
  have hns := need_signs_val ht (show t.length ≤ 100000 by omega)
  by_cases h0 : t = []
  · subst h0
    simp only [F_borders, r_runF, B_borders]
    simp [hns, hsz0, bord, gNe_nT okNil]
  · have hp : 0 < t.length := List.length_pos_iff.mpr h0
    obtain ⟨G, G1, G2⟩ := gb_val hl
    obtain ⟨g, g1, g2⟩ := G2.at (m := t.length - 1) (by omega)
    rw [show t.length - 1 + 1 = t.length by omega] at g2
    have g1 : L2.atI (G.map fun k : Nat => D.int (k : Int)) (-1) = some (.int (g : Nat)) := by
      rw [atI_neg1, List.getLast?_eq_getElem?, List.length_map, G2.1, ← atI_eq]
      exact g1
    obtain ⟨e', h1, k', rfl, -⟩ := while_inv (t := T_borders_l1) (b := B_borders_l2)
      (fun e => ∃ k' : Nat, e = [some (dT t), some (dN (bdUp t k')), some (dN G), some (.int (k' : Nat))] ∧ isB t t.length k')
      (fun e => match (e[3]? : Option (Option D)) with | some (some (D.int k)) => k.toNat | _ => 0)
      (fun e => ∃ k' : Nat, e = [some (dT t), some (dN (bdUp t 0)), some (dN G), some (.int 0)] ∧ isB t t.length k')
      (fun e he => by
        obtain ⟨k', rfl, q1⟩ := he
        by_cases c1 : k' = 0
        · subst c1
          refine ⟨false, _, ?_, 0, rfl, q1⟩
          simp [T_borders_l1]
        · have c1' : 0 < k' := by omega
          obtain ⟨m, m1, m2⟩ := G2.at (m := k' - 1) (by have := q1.1; omega)
          rw [show k' - 1 + 1 = k' by omega] at m2
          rw [show ((k' - 1 : Nat) : Int) = (k' : Int) - 1 by omega] at m1
          refine ⟨true, [some (dT t), some (dN (bdUp t k')), some (dN G), some (.int (k' : Nat))], ?_, ?_⟩
          · simp [T_borders_l1, c1']
          · rw [if_pos rfl]
            refine ⟨.nx, [some (dT t), some (dN (bdUp t m)), some (dN G), some (.int (m : Nat))], ?_, .inl rfl, ⟨m, rfl, isB_trans q1 m2.1⟩, ?_⟩
            · have hL : (bdUp t k').length < LIM := by have := bdUp_len t k'; show _ < 100000; omega
              rw [← bdUp_step q1 m2]
              simp [B_borders_l2, hL, m1]
            · show (m : Int).toNat < (k' : Int).toNat
              have := m2.1.1; omega)
      WFUEL [some (dT t), some (.lst []), some (dN G), some (.int (g : Nat))] ⟨g, by rw [bdUp_top g2]; rfl, g2.1⟩ (by show (g : Int).toNat < 1000000; have := g2.1.1; omega)
    have hL : (bdUp t 0).length < LIM := by have := bdUp_len t 0; show _ < 100000; omega
    rw [← bdUp_zero hp]
    simp only [F_borders, r_runF, B_borders]
    simp [hns, hsz0, gNe_nT ht.ok, h0, G1, g1, h1, hL]
end Ov
namespace Ov
open PySem (Str PyData)
open MV
def isSg (x : Str) : Bool := decide (x.length = 1) && x.cps.toList.all fun c => decide (97 ≤ c) && decide (c ≤ 122)
def Gd (t : List Str) : Prop := ∀ x ∈ t, okS x ∧ x.length ≤ 100
theorem Tx.gd {t : List Str} (h : Tx t) : Gd t := fun x hx => ⟨(h x hx).ok, by obtain ⟨c, rfl, _⟩ := h x hx; show 1 ≤ 100; decide⟩
theorem Gd.ok {t : List Str} (h : Gd t) : ∀ x ∈ t, okS x := fun x hx => (h x hx).1
theorem Gd.append {t u : List Str} (h : Gd t) (h2 : Gd u) : Gd (t ++ u) := fun x hx => (List.mem_append.mp hx).elim (h x) (h2 x)
theorem strs_all (l : List Str) : ∀ x ∈ l.map D.str, x.sc = true := fun x h => by
  obtain ⟨y, _, rfl⟩ := List.mem_map.mp h
  rfl
end Ov
namespace Ov
open PySem (Str PyData)
open MV
def Lay (n : Nat) (d : D) : Prop := ∃ p, d.toP = some p ∧ p.canLay0 = true ∧ p.depth ≤ n
theorem lay_int {n : Nat} (i : Int) : Lay n (.int i) := ⟨.int i, rfl, by simp [PyData.canLay0], by simp [PyData.depth]⟩
theorem Lay.le {n m : Nat} (h : n ≤ m) {d : D} (l : Lay n d) : Lay m d := let ⟨p, a, b, c⟩ := l; ⟨p, a, b, Nat.le_trans c h⟩
theorem deq_self {d : D} (h : Lay 64 d) : deq d d = some true := by
  obtain ⟨p, h1, h2, h3⟩ := h
  cases d with
  | lst l =>
    show (match (D.lst l).toP, (D.lst l).toP with | some p, some q => if PySem.SeqAt.shaped p && PySem.SeqAt.shaped q then some (PyData.eqv p q) else none | _, _ => none) = _
    rw [h1]
    have : PySem.SeqAt.shaped p = true := by unfold PySem.SeqAt.shaped; rw [h2, decide_eq_true h3]; rfl
    simp only [this, Bool.and_self, if_true, PySem.SeqAt.eqv_refl p h2]
  | tup l =>
    show (match (D.tup l).toP, (D.tup l).toP with | some p, some q => if PySem.SeqAt.shaped p && PySem.SeqAt.shaped q then some (PyData.eqv p q) else none | _, _ => none) = _
    rw [h1]
    have : PySem.SeqAt.shaped p = true := by unfold PySem.SeqAt.shaped; rw [h2, decide_eq_true h3]; rfl
    simp only [this, Bool.and_self, if_true, PySem.SeqAt.eqv_refl p h2]
  | int i => simp [deq]
  | str i => simp [deq]
  | bl i => cases i <;> rfl
  | non => rfl
  | dic _ => cases h1
  | dit _ => cases h1
  | exc _ => cases h1
theorem gNe_self {d : D} (h : Lay 64 d) : gNe d d = some (.bl false) := by unfold gNe; rw [deq_self h]; rfl
theorem gEq_self {d : D} (h : Lay 64 d) : gEq d d = some (.bl true) := by unfold gEq; rw [deq_self h]; rfl
def wayson (w : List Str) : List Nat := (List.range' 1 w.length).filter fun d => decide (w.drop d = w.take (w.length - d))
theorem wayson_le {w : List Str} {d : Nat} (h : d ∈ wayson w) : 1 ≤ d ∧ d ≤ w.length := by
  unfold wayson at h
  rw [List.mem_filter, List.mem_range'] at h
  obtain ⟨⟨i, h1, h2⟩, _⟩ := h
  omega
end Ov
namespace Ov
open PySem (Str PyData)
open MV
end Ov
namespace Ov
open PySem (Str PyData)
open MV
end Ov
namespace Ov
open PySem (Str)
open MV
def reach (w : Nat) : Nat → List Nat → Nat
  | r, [] => r
  | r, p :: L => if p ≤ r then reach w (p + w) L else reach w r L
def wlk (w : Nat) : Nat → List Nat → List Nat
  | _, [] => []
  | r, p :: L => if p ≤ r then (p + w) :: wlk w (p + w) L else wlk w r L
abbrev Srt (l : List Nat) : Prop := l.Pairwise (· < ·)
theorem reach_fold (w : Nat) : ∀ (L : List Nat) (r : Nat), L.foldl (fun r p => if p ≤ r then p + w else r) r = reach w r L
  | [], r => rfl
  | p :: L, r => by
    rw [List.foldl_cons, reach_fold w L, reach]
    by_cases h : p ≤ r
    · rw [if_pos h, if_pos h]
    · rw [if_neg h, if_neg h]
theorem reach_max (w : Nat) : ∀ (L : List Nat) (r : Nat), Srt L → (∀ p ∈ L, r ≤ p + w) → L.foldl (fun r p => if p ≤ r then max r (p + w) else r) r = reach w r L
  | [], r, _, _ => rfl
  | p :: L, r, hs, hr => by
    rw [List.foldl_cons, reach]
    have hs := List.pairwise_cons.mp hs
    have h1 := hr p List.mem_cons_self
    by_cases h : p ≤ r
    · rw [if_pos h, if_pos h, Nat.max_eq_right h1, reach_max w L _ hs.2 fun q hq => by have := hs.1 q hq; omega]
    · rw [if_neg h, if_neg h, reach_max w L _ hs.2 fun q hq => hr q (List.mem_cons_of_mem _ hq)]
theorem reach_mem (w : Nat) : ∀ (L : List Nat) (r : Nat), reach w r L = r ∨ ∃ p ∈ L, reach w r L = p + w
  | [], r => .inl rfl
  | p :: L, r => by
    rw [reach]
    by_cases h : p ≤ r
    · rw [if_pos h]
      rcases reach_mem w L (p + w) with e | ⟨q, hq, e⟩
      · exact .inr ⟨p, List.mem_cons_self, e⟩
      · exact .inr ⟨q, List.mem_cons_of_mem _ hq, e⟩
    · rw [if_neg h]
      rcases reach_mem w L r with e | ⟨q, hq, e⟩
      · exact .inl e
      · exact .inr ⟨q, List.mem_cons_of_mem _ hq, e⟩
theorem srt_ext : ∀ {a b : List Nat}, Srt a → Srt b → (∀ x, x ∈ a ↔ x ∈ b) → a = b
  | [], [], _, _, _ => rfl
  | [], y :: b, _, _, h => absurd ((h y).mpr List.mem_cons_self) (by simp)
  | x :: a, [], _, _, h => absurd ((h x).mp List.mem_cons_self) (by simp)
  | x :: a, y :: b, ha, hb, h => by
    have ha' := List.pairwise_cons.mp ha
    have hb' := List.pairwise_cons.mp hb
    have e : x = y := by
      have h1 := (h x).mp List.mem_cons_self
      have h2 := (h y).mpr List.mem_cons_self
      rcases List.mem_cons.mp h1 with e | h1
      · exact e
      · rcases List.mem_cons.mp h2 with e | h2
        · exact e.symm
        · have := ha'.1 y h2; have := hb'.1 x h1; omega
    subst e
    rw [srt_ext ha'.2 hb'.2 fun z => ?_]
    constructor
    · intro hz
      have := ha'.1 z hz
      rcases List.mem_cons.mp ((h z).mp (List.mem_cons_of_mem _ hz)) with e | h1
      · omega
      · exact h1
    · intro hz
      have := hb'.1 z hz
      rcases List.mem_cons.mp ((h z).mpr (List.mem_cons_of_mem _ hz)) with e | h1
      · omega
      · exact h1
theorem srt_range (n : Nat) : Srt (List.range n) := List.pairwise_lt_range
theorem srt_range' (m n : Nat) : Srt (List.range' m n) := List.pairwise_lt_range'
theorem srt_filter {l : List Nat} (p : Nat → Bool) (h : Srt l) : Srt (l.filter p) := h.filter p
theorem wlk_gt {w : Nat} (hw : 0 < w) : ∀ (L : List Nat) (r : Nat), Srt L → (∀ p ∈ L, r < p + w) → Srt (wlk w r L) ∧ ∀ x ∈ wlk w r L, r < x ∧ ∃ p ∈ L, x = p + w
  | [], r, _, _ => ⟨List.Pairwise.nil, fun x h => by cases h⟩
  | p :: L, r, hs, hr => by
    have hs := List.pairwise_cons.mp hs
    have h1 := hr p List.mem_cons_self
    rw [wlk]
    by_cases h : p ≤ r
    · rw [if_pos h]
      obtain ⟨a1, a2⟩ := wlk_gt hw L (p + w) hs.2 fun q hq => by have := hs.1 q hq; omega
      refine ⟨List.pairwise_cons.mpr ⟨fun x hx => (a2 x hx).1, a1⟩, fun x hx => ?_⟩
      rcases List.mem_cons.mp hx with e | hx
      · exact ⟨by omega, p, List.mem_cons_self, e⟩
      · obtain ⟨b1, q, b2, b3⟩ := a2 x hx
        exact ⟨by omega, q, List.mem_cons_of_mem _ b2, b3⟩
    · rw [if_neg h]
      obtain ⟨a1, a2⟩ := wlk_gt hw L r hs.2 fun q hq => hr q (List.mem_cons_of_mem _ hq)
      refine ⟨a1, fun x hx => ?_⟩
      obtain ⟨b1, q, b2, b3⟩ := a2 x hx
      exact ⟨b1, q, List.mem_cons_of_mem _ b2, b3⟩
theorem wlk_iff {w : Nat} (hw : 0 < w) : ∀ (L : List Nat) (r s : Nat), Srt L → (∀ p ∈ L, r < p + w) → r < s → (s ∈ wlk w r L ↔ reach w r (L.filter fun p => decide (p + w ≤ s)) = s)
  | [], r, s, _, _, h => by simp [wlk, reach]; omega
  | p :: L, r, s, hs, hr, hrs => by
    have hs' := List.pairwise_cons.mp hs
    have h1 := hr p List.mem_cons_self
    have ge : ∀ q ∈ L, p + w < q + w := fun q hq => by have := hs'.1 q hq; omega
    rw [wlk]
    by_cases h : p ≤ r
    · rw [if_pos h]
      obtain ⟨_, a2⟩ := wlk_gt hw L (p + w) hs'.2 ge
      by_cases c : s < p + w
      · have e : (p :: L).filter (fun p => decide (p + w ≤ s)) = [] := by
          rw [List.filter_eq_nil_iff]
          intro q hq
          rcases List.mem_cons.mp hq with e | hq
          · subst e; simp; omega
          · have := ge q hq; simp; omega
        rw [e, reach]
        constructor
        · intro hm
          rcases List.mem_cons.mp hm with e | hm
          · omega
          · have := (a2 s hm).1; omega
        · intro e; omega
      · by_cases c2 : s = p + w
        · have e : (p :: L).filter (fun p => decide (p + w ≤ s)) = [p] := by
            rw [List.filter_cons, if_pos (by simp; omega)]
            congr 1
            rw [List.filter_eq_nil_iff]
            intro q hq
            have := ge q hq; simp; omega
          rw [e, reach, if_pos h, reach]
          simp [c2]
        · rw [List.filter_cons, if_pos (by simp; omega), reach, if_pos h, ← wlk_iff hw L (p + w) s hs'.2 ge (by omega)]
          simp [c2]
    · rw [if_neg h, wlk_iff hw L r s hs'.2 (fun q hq => hr q (List.mem_cons_of_mem _ hq)) hrs]
      rw [List.filter_cons]
      by_cases c : p + w ≤ s
      · rw [if_pos (by simp; exact c), reach, if_neg h]
      · rw [if_neg (by simp; omega)]
theorem wlk_due {w n : Nat} (hw : 0 < w) {L : List Nat} (hs : Srt L) (hn : ∀ p ∈ L, p + w ≤ n) : wlk w 0 L = (List.range' 1 n).filter fun s => decide (reach w 0 (L.filter fun p => decide (p + w ≤ s)) = s) := by
  have hr : ∀ p ∈ L, 0 < p + w := fun p _ => by omega
  obtain ⟨a1, a2⟩ := wlk_gt hw L 0 hs hr
  refine srt_ext a1 (srt_filter _ (srt_range' _ _)) fun s => ?_
  rw [List.mem_filter, List.mem_range'_1]
  constructor
  · intro h
    obtain ⟨b1, p, b2, b3⟩ := a2 s h
    have := hn p b2
    exact ⟨by omega, decide_eq_true ((wlk_iff hw L 0 s hs hr b1).mp h)⟩
  · intro ⟨h1, h2⟩
    exact (wlk_iff hw L 0 s hs hr (by omega)).mpr (of_decide_eq_true h2)
theorem srt_lies (t w : List Str) : Srt (lies t w) := srt_filter _ (srt_range _)
def cbS (w : Nat) (f : List Nat) (p : Nat) : List Nat := if p ≤ f.getLastD 0 then f ++ [p + w] else f
theorem cb_wlk (w : Nat) : ∀ (L f : List Nat), L.foldl (cbS w) f = f ++ wlk w (f.getLastD 0) L
  | [], f => by rw [List.foldl_nil, wlk, List.append_nil]
  | p :: L, f => by
    rw [List.foldl_cons, wlk, cb_wlk w L]
    unfold cbS
    by_cases h : p ≤ f.getLastD 0
    · rw [if_pos h, if_pos h]
      simp [List.getLastD_eq_getLast?]
    · rw [if_neg h, if_neg h]
end Ov
namespace Ov
open PySem (Str)
open MV
theorem dN_last {f : List Nat} (h : f ≠ []) : L2.atI (f.map fun k : Nat => D.int (k : Int)) (-1) = some (.int (f.getLastD 0 : Nat)) := by
  rw [atI_neg1, List.getLast?_map, List.getLastD_eq_getLast?]
  rw [List.getLast?_eq_some_getLast h]
  rfl
theorem cb_row {t w : List Str} {f : List Nat} {p : Nat} (hf : f.length < LIM) : B_covered_beginnings_l1 [some (dT t), some (dT w), some (dN f), some (.int p)] = .ok .nx [some (dT t), some (dT w), some (dN (cbS w.length f p)), some (.int p)] := by
  unfold cbS
  by_cases h0 : p = 0
  · subst h0
    rw [if_pos (Nat.zero_le _)]
    simp [B_covered_beginnings_l1, hf]
  · by_cases hn : f = []
    · subst hn
      rw [if_neg (by show ¬ p ≤ 0; omega)]
      simp [B_covered_beginnings_l1, h0, hsz0, gNe_nN]
    · have hl := dN_last hn
      have hne := gNe_nN f
      generalize f.getLastD 0 = g at hl ⊢
      by_cases c : p ≤ g
      · rw [if_pos c]
        simp [B_covered_beginnings_l1, h0, hsz0, hne, hn, hl, c, hf]
      · rw [if_neg c]
        simp [B_covered_beginnings_l1, h0, hsz0, hne, hn, hl, c]
theorem wlk_len (w : Nat) : ∀ (L : List Nat) (r : Nat), (wlk w r L).length ≤ L.length
  | [], r => Nat.le_refl _
  | p :: L, r => by
    rw [wlk]
    by_cases h : p ≤ r
    · rw [if_pos h, List.length_cons, List.length_cons]; have := wlk_len w L (p + w); omega
    · rw [if_neg h, List.length_cons]; have := wlk_len w L r; omega
theorem cb_val {t w : List Str} (ht : Tx t) (hw : Tx w) (h0 : w ≠ []) (hl : t.length ≤ 900) (hl2 : w.length ≤ 900) : F_covered_beginnings [dT t, dT w] = .ok (dN (wlk w.length 0 (lies t w))) (dT t) := by
  have hL : t.length + w.length ≤ LIM := by show _ ≤ 100000; omega
  have hn := need_signs_val (ht.append hw) (by rw [List.length_append]; exact hL)
  have hn : F_need_signs [.lst (t.map D.str ++ w.map D.str)] = .ok .non (dT (t ++ w)) := by rw [← List.map_append]; exact hn
  have ll := lies_len t w
  obtain ⟨e', h1, e3, q, rfl, -⟩ := for_inv (tg := tgN 3) (b := B_covered_beginnings_l1) (ds := (lies t w).map fun k : Nat => D.int (k : Int)) (e := [some (dT t), some (dT w), some (.lst []), none])
    (fun i e => ∃ e3, ∃ q : i ≤ (lies t w).length, e = [some (dT t), some (dT w), some (dN (((lies t w).take i).foldl (cbS w.length) [])), e3] ∧ True)
    ⟨none, Nat.zero_le _, rfl, trivial⟩
    (fun i d e hd hi => by
      obtain ⟨e3, q, rfl, -⟩ := hi
      rw [List.getElem?_map] at hd
      cases z : (lies t w)[i]? with
      | none => rw [z] at hd; cases hd
      | some p =>
        rw [z] at hd
        cases Option.some.inj hd
        have hi := (List.getElem?_eq_some_iff.mp z).1
        have hlen : (((lies t w).take i).foldl (cbS w.length) []).length < LIM := by
          rw [cb_wlk, List.nil_append]
          have := wlk_len w.length ((lies t w).take i) (([] : List Nat).getLastD 0)
          rw [List.length_take] at this
          show _ < 100000; omega
        refine ⟨_, _, .nx, rfl, cb_row hlen, .inl rfl, some (.int p), by omega, ?_, trivial⟩
        rw [List.take_succ, z, List.foldl_append]; rfl)
  rw [List.length_map, List.take_length, cb_wlk] at h1
  simp only [F_covered_beginnings, r_runF, B_covered_beginnings]
  simp at h1
  simp [need_word_val hw h0, hL, hn, hsz0, lies_at_val ht hw h0 (by omega) (by omega), h1]
end Ov
namespace Ov
open PySem (Str)
open MV
theorem need_text_val {t : List Str} (ht : Tx t) (h0 : t ≠ []) : F_need_text [dT t] = .ok .non (dT t) := by
  simp only [F_need_text, r_runF, B_need_text]
  simp [hsz0, gEq_nT ht.ok, h0]
theorem need_both_val {t w : List Str} (ht : Tx t) (hw : Tx w) (ht0 : t ≠ []) (h0 : w ≠ []) (hl : t.length ≤ 1000) (hl2 : w.length ≤ 1000) : F_need_both [dT t, dT w] = .ok .non (dT t) := by
  have hL : t.length + w.length ≤ LIM := by show _ ≤ 100000; omega
  have hn := need_signs_val (ht.append hw) (by rw [List.length_append]; exact hL)
  have hn : F_need_signs [.lst (t.map D.str ++ w.map D.str)] = .ok .non (dT (t ++ w)) := by rw [← List.map_append]; exact hn
  simp only [F_need_both, r_runF, B_need_both]
  simp [need_word_val hw h0, hL, hn, need_text_val ht ht0]
theorem max_val {r p : Nat} : gMax2 [.int (r : Int), .int (p : Int)] = some (.int ((max r p : Nat) : Int)) := by
  rw [gMax2_i]
  by_cases h : (p : Int) > (r : Int)
  · rw [if_pos h, Nat.max_eq_right (by omega)]
  · rw [if_neg h, Nat.max_eq_left (by omega)]
theorem first_bare_val {w n : Nat} {L : List Nat} (hs : Srt L) : F_first_bare [.int (w : Int), dN L, .int (n : Int)] = .ok (if reach w 0 L < n then .int (reach w 0 L : Nat) else .non) (.int w) := by
  obtain ⟨e', h2, x4, rfl⟩ := for_fold (tg := tgN 4) (b := B_first_bare_l1) (φ := fun k : Nat => D.int (k : Int)) (fun (r : Nat) e => ∃ x4, e = [some (.int (w : Int)), some (dN L), some (.int (n : Int)), some (.int (r : Int)), x4]) (fun r p => if p ≤ r then max r (p + w) else r) L 0 [some (.int (w : Int)), some (dN L), some (.int (n : Int)), some (.int 0), none] ⟨none, rfl⟩
    (fun r p e hp he => by
      obtain ⟨x4, rfl⟩ := he
      by_cases c : p ≤ r
      · refine ⟨_, [some (.int (w : Int)), some (dN L), some (.int (n : Int)), some (.int ((max r (p + w) : Nat) : Int)), some (.int p)], .nx, rfl, ?_, .inl rfl, some (.int p), by rw [if_pos c]⟩
        have hm : gMax2 [.int (r : Int), .int ((p : Int) + (w : Int))] = some (.int ((max r (p + w) : Nat) : Int)) := by
          rw [show ((p : Int) + (w : Int)) = ((p + w : Nat) : Int) by omega]; exact max_val
        simp [B_first_bare_l1, c, hm, -gMax2_i]
      · refine ⟨_, [some (.int (w : Int)), some (dN L), some (.int (n : Int)), some (.int r), some (.int p)], .nx, rfl, ?_, .inl rfl, some (.int p), by rw [if_neg c]⟩
        simp [B_first_bare_l1, c])
  rw [reach_max w L 0 hs fun p _ => Nat.zero_le _] at h2
  generalize reach w 0 L = rr at h2 ⊢
  simp only [F_first_bare, r_runF, B_first_bare]
  by_cases c : rr < n
  · simp [h2, c]
  · simp [h2, c]
theorem isN_int {i : Int} : gIsN (.int i) .non = some (.bl false) := rfl
theorem isN_non : gIsN .non .non = some (.bl true) := rfl
theorem covered_val {t w : List Str} (ht : Tx t) (hw : Tx w) (ht0 : t ≠ []) (h0 : w ≠ []) (hl : t.length ≤ 900) (hl2 : w.length ≤ 900) : F_covered [dT t, dT w] = .ok (if reach w.length 0 (lies t w) < t.length then .tup [.str (Str.ofString "bare"), .int (reach w.length 0 (lies t w) : Nat)] else .tup [.str (Str.ofString "covers"), dN (lies t w)]) (dT t) := by
  have hsz : (2 : Nat) ≤ PySem.sizeLine := by decide
  have hb := first_bare_val (w := w.length) (n := t.length) (srt_lies t w)
  simp only [F_covered, r_runF, B_covered]
  by_cases c : reach w.length 0 (lies t w) < t.length
  · rw [if_pos c] at hb ⊢
    simp [need_both_val ht hw ht0 h0 (by omega) (by omega), lies_at_val ht hw h0 (by omega) (by omega), hb, isN_int, hsz]
  · rw [if_neg c] at hb ⊢
    simp [need_both_val ht hw ht0 h0 (by omega) (by omega), lies_at_val ht hw h0 (by omega) (by omega), hb, isN_non, hsz]
def cov (t : List Str) (s : Nat) : Bool := decide (reach s 0 (lies t (t.take s)) = t.length)
def covs (t : List Str) : List Nat := (List.range' 1 t.length).filter (cov t)
theorem reach_le {t w : List Str} : reach w.length 0 (lies t w) ≤ t.length := by
  rcases reach_mem w.length (lies t w) 0 with e | ⟨p, hp, e⟩
  · rw [e]; exact Nat.zero_le _
  · rw [e]; exact lies_lt hp
theorem lies_self (t : List Str) : lies t t = [0] := by
  unfold lies
  rw [show t.length + 1 - t.length = 1 by omega]
  simp
theorem cov_self (t : List Str) : cov t t.length = true := by
  unfold cov
  rw [List.take_length, lies_self]
  simp [reach]
theorem cov_bord {t : List Str} {s : Nat} (hs : s < t.length) (h : cov t s = true) : s ∈ bord t := by
  have h := of_decide_eq_true h
  have hl : (t.take s).length = s := by rw [List.length_take]; omega
  rcases reach_mem s (lies t (t.take s)) 0 with e | ⟨p, hp, e⟩
  · rw [e] at h; omega
  · rw [e] at h
    unfold lies at hp
    rw [List.mem_filter] at hp
    have hp := of_decide_eq_true hp.2
    rw [hl] at hp
    unfold bord
    rw [List.mem_filter, List.mem_range]
    refine ⟨hs, decide_eq_true ?_⟩
    rw [show t.length - s = p by omega, ← hp, List.take_of_length_le (by rw [List.length_drop]; omega)]
theorem covs_eq {t : List Str} (h0 : 0 < t.length) : ((bord t).filter fun b => decide (0 < b) && cov t b) ++ [t.length] = covs t := by
  refine srt_ext ?_ (srt_filter _ (srt_range' _ _)) fun s => ?_
  · rw [Srt, List.pairwise_append]
    refine ⟨srt_filter _ (srt_filter _ (srt_range _)), List.pairwise_singleton _ _, fun a ha b hb => ?_⟩
    rw [List.mem_singleton.mp hb]
    exact bord_lt (List.mem_filter.mp ha).1
  · unfold covs
    rw [List.mem_append, List.mem_filter, List.mem_singleton, List.mem_filter, List.mem_range'_1]
    constructor
    · rintro (⟨h1, h2⟩ | rfl)
      · have := bord_lt h1
        simp at h2
        exact ⟨by omega, h2.2⟩
      · exact ⟨by omega, cov_self t⟩
    · intro ⟨h1, h2⟩
      by_cases c : s = t.length
      · exact .inr c
      · exact .inl ⟨cov_bord (by omega) h2, by simp [h2]; omega⟩
theorem ne_cb : ¬ Str.ofString "bare" = Str.ofString "covers" := by decide +kernel
theorem all_covers_val {t : List Str} (ht : Tx t) (h0 : t ≠ []) (hl : t.length ≤ 900) : F_all_covers [dT t] = .ok (dN (covs t)) (dT t) := by
  have hp : 0 < t.length := List.length_pos_iff.mpr h0
  have hb := bord_len t
  have h1 := lc_nat (is := [2]) (tg := tgN 2) (t := tAnd2 (tB (e2 gGt (eV 2) (eC (.int 0)))) (tB (e2 gEq (e2 gIx (eCall F_covered (aCons (eV 0) (aCons (eSl (eV 0) oNone (oSome (eV 2))) aNil))) (eC (.int 0))) (eC (.str (Str.ofString "covers")))))) (fe := eV 2) (e := [some (dT t), none, none]) (fun b => decide (0 < b) && cov t b) (fun k => .int (k : Int)) (bord t) (by show _ ≤ 100000; omega)
    (fun b hk => by
      have hlt := bord_lt hk
      refine ⟨_, [some (dT t), none, some (.int b)], rfl, ?_, fun _ => ⟨_, rfl, rfl⟩, fun _ => rfl⟩
      by_cases c0 : 0 < b
      · have hlb : (t.take b).length = b := by rw [List.length_take]; omega
        have hc := covered_val ht (ht.take b) h0 (fun e => by rw [e] at hlb; simp at hlb; omega) hl (by omega)
        have hr := reach_le (t := t) (w := t.take b)
        rw [hlb] at hc hr
        unfold cov
        by_cases c : reach b 0 (lies t (t.take b)) < t.length
        · rw [if_pos c] at hc
          have c' : ¬ reach b 0 (lies t (t.take b)) = t.length := by omega
          simp [c0, cutA_map, cutA_to, hc, ne_cb, c', -List.map_take]
        · rw [if_neg c] at hc
          have c' : reach b 0 (lies t (t.take b)) = t.length := by omega
          simp [c0, cutA_map, cutA_to, hc, c', -List.map_take]
      · simp [c0])
  have hsz : (1 : Nat) ≤ PySem.sizeLine := by decide
  have hfl := List.length_filter_le (fun b => decide (0 < b) && cov t b) (bord t)
  have e1 : ((bord t).filter fun b => decide (0 < b) && cov t b).map (fun k : Nat => D.int (k : Int)) ++ [D.int (t.length : Int)] = (covs t).map fun k : Nat => D.int (k : Int) := by
    rw [← covs_eq hp, List.map_append]; rfl
  generalize (bord t).filter (fun b => decide (0 < b) && cov t b) = Fl at h1 e1 hfl
  have hL : Fl.length + 1 ≤ LIM := by show _ ≤ 100000; omega
  simp only [F_all_covers, r_runF, B_all_covers]
  simp [need_signs_val ht (show t.length ≤ 100000 by omega), need_text_val ht h0, borders_val ht (by omega), h1, hsz, hL, e1]
theorem shortest_val {t : List Str} (ht : Tx t) (h0 : t ≠ []) (hl : t.length ≤ 900) {a : Nat} {r : List Nat} (hc : covs t = a :: r) : F_shortest_cover [dT t] = .ok (.int (a : Int)) (dT t) := by
  have h1 := all_covers_val ht h0 hl
  rw [hc] at h1
  simp only [F_shortest_cover, r_runF, B_shortest_cover]
  simp [h1]
theorem is_bare_val {t : List Str} (ht : Tx t) (h0 : t ≠ []) (hl : t.length ≤ 900) {a : Nat} {r : List Nat} (hc : covs t = a :: r) : F_is_bare [dT t] = .ok (.bl (decide ((a : Int) = (t.length : Int)))) (dT t) := by
  simp only [F_is_bare, r_runF, B_is_bare]
  simp [shortest_val ht h0 hl hc]
theorem text1_ok {z : Str} {n : Nat} (hz : Lt z n) (hn : 2 ≤ n) (hn2 : n ≤ 26) {t : List Str} (ht : Tx t) : ∃ x, gIx (.str z) (.int 0) = some (.str x) ∧ Sg x := by
  obtain ⟨c, c1, c2⟩ := hz.at (r := 0) (by omega)
  have l1 : z.length ≤ LIM := by rw [hz.len]; show _ ≤ 100000; omega
  have c1 : L2.atI z.cps.toList 0 = some c := c1
  exact ⟨⟨#[c]⟩, by simp [l1, c1], c2⟩
end Ov
namespace Ov
open PySem (Str PyData)
open MV
def topL (p : Nat → Bool) : Nat → Nat
  | 0 => 0
  | n + 1 => if p (n + 1) then n + 1 else topL p n
def haB (t w : List Str) (l : Nat) : Bool := decide (w.drop (w.length - l) = t.take l)
def hbB (t w : List Str) (l : Nat) : Bool := decide (w.take l = t.drop (t.length - l))
def ha (t w : List Str) : Nat := topL (haB t w) (min t.length (w.length - 1))
def hb (t w : List Str) : Nat := topL (hbB t w) (min t.length (w.length - 1))
def cam (w b : Nat) (L : List Nat) : Nat := L.foldl (fun r p => if p ≤ r then max r (p + w) else r) b
def rbV (t w : List Str) : Bool := decide (t.length - hb t w ≤ cam w.length 0 (lies t w))
def raV (t w : List Str) : Bool := decide (t.length ≤ cam w.length (ha t w) (lies t w))
def cbV (t w : List Str) : Bool := !decide (lies w t = []) || decide (t.length - hb t w ≤ cam w.length (ha t w) (lies t w))
section
variable {t w : List Str}
end
def pc (t : List Str) (l p : Nat) : List Str := (t.drop p).take l
def fstAt (t : List Str) (l p : Nat) : Bool := !((List.range p).any fun k => decide (pc t l k = pc t l p))
def metK (s : List Str) : List L2.Key := s.map Sum.inr
end Ov
namespace Ov
open PySem (Str PyData)
open MV
def S2 (k : Nat) : List Nat := if k = 0 then [0] else [0, k]
theorem depth_strs : ∀ a : List Str, PyData.depthAll (a.map PyData.str) = 0
  | [] => by simp [PyData.depthAll]
  | x :: a => by rw [List.map_cons, PyData.depthAll, depth_strs a]; simp [PyData.depth]
mutual
theorem eqv_eq : ∀ (p q : PyData), PySem.W.alike p q = true → PyData.eqv p q = true → p = q
  | .none, q, h, e => by cases q <;> first | rfl | (simp [PySem.W.alike] at h)
  | .bool a, q, h, e => by cases q <;> first | (exfalso; simp [PySem.W.alike] at h; done) | (simp [PyData.eqv] at e; rw [e])
  | .int a, q, h, e => by cases q <;> first | (exfalso; simp [PySem.W.alike] at h; done) | (simp [PyData.eqv] at e; rw [e])
  | .str a, q, h, e => by cases q <;> first | (exfalso; simp [PySem.W.alike] at h; done) | (simp [PyData.eqv] at e; rw [e])
  | .list xs, q, h, e => by
    cases q with
    | list ys =>
      rw [PySem.W.alike] at h
      rw [PyData.eqv] at e
      rw [eqvAll_eq xs ys h e]
    | _ => simp [PySem.W.alike] at h
  | .tuple xs, q, h, e => by
    cases q with
    | tuple ys =>
      rw [PySem.W.alike] at h
      rw [PyData.eqv] at e
      rw [eqvAll_eq xs ys h e]
    | _ => simp [PySem.W.alike] at h
  | .dict _, q, h, e => by cases q <;> simp [PySem.W.alike] at h
theorem eqvAll_eq : ∀ (p q : List PyData), PySem.W.alikeAll p q = true → PyData.eqvAll p q = true → p = q
  | [], [], _, _ => rfl
  | [], _ :: _, _, e => by simp [PyData.eqvAll] at e
  | _ :: _, [], _, e => by simp [PyData.eqvAll] at e
  | x :: xs, y :: ys, h, e => by
    rw [PySem.W.alikeAll, Bool.and_eq_true] at h
    rw [PyData.eqvAll, Bool.and_eq_true] at e
    rw [eqv_eq x y h.1 e.1, eqvAll_eq xs ys h.2 e.2]
end
section
variable {t w : List Str}
theorem for_step {tg : D → M Unit} {b : M Fl} {d : D} {r : List D} {e e1 e2 : PEnv} (h1 : tg d e = .ok () e1) (h2 : b e1 = .ok .nx e2) : sForL tg b (d :: r) e = sForL tg b r e2 := by
  rw [sForL, bnd_of_ok h1, bnd_of_ok h2]; rfl
end
end Ov
namespace Ov
open PySem (Str)
open MV
theorem reach_ge (w : Nat) : ∀ (L : List Nat) (r : Nat), Srt L → (∀ p ∈ L, r ≤ p + w) → r ≤ reach w r L
  | [], r, _, _ => Nat.le_refl _
  | p :: L, r, hs, hr => by
    have hs := List.pairwise_cons.mp hs
    have h1 := hr p List.mem_cons_self
    rw [reach]
    by_cases h : p ≤ r
    · rw [if_pos h]
      have := reach_ge w L (p + w) hs.2 fun q hq => by have := hs.1 q hq; omega
      omega
    · rw [if_neg h]; exact reach_ge w L r hs.2 fun q hq => hr q (List.mem_cons_of_mem _ hq)
theorem reach_in (w : Nat) : ∀ (L : List Nat) (r i : Nat), i < reach w r L → i < r ∨ ∃ p ∈ L, p ≤ i ∧ i < p + w
  | [], r, i, h => .inl h
  | p :: L, r, i, h => by
    rw [reach] at h
    by_cases c : p ≤ r
    · rw [if_pos c] at h
      rcases reach_in w L (p + w) i h with h | ⟨q, hq, h⟩
      · by_cases z : i < r
        · exact .inl z
        · exact .inr ⟨p, List.mem_cons_self, by omega, h⟩
      · exact .inr ⟨q, List.mem_cons_of_mem _ hq, h⟩
    · rw [if_neg c] at h
      rcases reach_in w L r i h with h | ⟨q, hq, h⟩
      · exact .inl h
      · exact .inr ⟨q, List.mem_cons_of_mem _ hq, h⟩
theorem reach_stop {w : Nat} : ∀ (L : List Nat) (r : Nat), (∀ p ∈ L, r < p) → reach w r L = r
  | [], r, _ => rfl
  | p :: L, r, h => by
    rw [reach, if_neg (by have := h p List.mem_cons_self; omega)]
    exact reach_stop L r fun q hq => h q (List.mem_cons_of_mem _ hq)
theorem reach_out (w : Nat) : ∀ (L : List Nat) (r : Nat), Srt L → (∀ p ∈ L, r ≤ p + w) → ∀ p ∈ L, p ≤ reach w r L → p + w ≤ reach w r L
  | [], r, _, _, p, hp => by cases hp
  | x :: L, r, hs, hr, p, hp => by
    have hs := List.pairwise_cons.mp hs
    have h1 := hr x List.mem_cons_self
    rw [reach]
    by_cases c : x ≤ r
    · rw [if_pos c]
      have hr' : ∀ q ∈ L, x + w ≤ q + w := fun q hq => by have := hs.1 q hq; omega
      rcases List.mem_cons.mp hp with e | hp
      · subst e; exact fun _ => reach_ge w L _ hs.2 hr'
      · exact reach_out w L _ hs.2 hr' p hp
    · rw [if_neg c, reach_stop L r fun q hq => by have := hs.1 q hq; omega]
      rcases List.mem_cons.mp hp with e | hp
      · subst e; intro h; omega
      · intro h; have := hs.1 p hp; omega
def Oc (t : List Str) (s p : Nat) : Prop := ∀ j, j < s → t[p + j]? = t[j]?
instance (t : List Str) (s p : Nat) : Decidable (Oc t s p) := Nat.decidableBallLT s fun j _ => t[p + j]? = t[j]?
def Cvr (t : List Str) (s e : Nat) : Prop := 1 ≤ s ∧ s ≤ e ∧ e ≤ t.length ∧ ∀ i, i < e → ∃ p, p ≤ i ∧ i < p + s ∧ p + s ≤ e ∧ Oc t s p
def rch (t : List Str) (s e : Nat) : Nat := reach s 0 ((lies t (t.take s)).filter fun p => decide (p + s ≤ e))
theorem oc_iff {t : List Str} {s p : Nat} (h : p + s ≤ t.length) : (t.drop p).take s = t.take s ↔ Oc t s p := by
  have hl : (t.take s).length = s := by rw [List.length_take]; omega
  have := take_drop_iff (t := t) (w := t.take s) (p := p) (by rw [hl]; exact h)
  rw [hl] at this
  rw [this]
  constructor
  · intro h k hk
    rw [h k hk, List.getElem?_take, if_pos hk]
  · intro h k hk
    rw [h k hk, List.getElem?_take, if_pos hk]
theorem mem_lies {t : List Str} {s p : Nat} (hs : s ≤ t.length) : p ∈ lies t (t.take s) ↔ p + s ≤ t.length ∧ Oc t s p := by
  have hl : (t.take s).length = s := by rw [List.length_take]; omega
  unfold lies
  rw [List.mem_filter, List.mem_range, hl]
  constructor
  · intro ⟨h1, h2⟩
    have : p + s ≤ t.length := by omega
    exact ⟨this, (oc_iff this).mp (of_decide_eq_true h2)⟩
  · intro ⟨h1, h2⟩
    exact ⟨by omega, decide_eq_true ((oc_iff h1).mpr h2)⟩
theorem mem_rl {t : List Str} {s e p : Nat} (hs : s ≤ t.length) (he : e ≤ t.length) : p ∈ (lies t (t.take s)).filter (fun p => decide (p + s ≤ e)) ↔ p + s ≤ e ∧ Oc t s p := by
  rw [List.mem_filter, mem_lies hs]
  constructor
  · intro ⟨h1, h2⟩; exact ⟨of_decide_eq_true h2, h1.2⟩
  · intro ⟨h1, h2⟩; exact ⟨⟨by omega, h2⟩, decide_eq_true h1⟩
theorem srt_rl (t : List Str) (s e : Nat) : Srt ((lies t (t.take s)).filter fun p => decide (p + s ≤ e)) := srt_filter _ (srt_lies _ _)
theorem rch_le {t : List Str} {s e : Nat} (hs : s ≤ t.length) (he : e ≤ t.length) : rch t s e ≤ e := by
  unfold rch
  rcases reach_mem s ((lies t (t.take s)).filter fun p => decide (p + s ≤ e)) 0 with q | ⟨p, hp, q⟩
  · rw [q]; exact Nat.zero_le _
  · rw [q]; exact ((mem_rl hs he).mp hp).1
theorem rch_iff {t : List Str} {s e : Nat} (h1 : 1 ≤ s) (h2 : s ≤ e) (he : e ≤ t.length) : rch t s e = e ↔ Cvr t s e := by
  have hs : s ≤ t.length := by omega
  constructor
  · intro h
    refine ⟨h1, h2, he, fun i hi => ?_⟩
    have := reach_in s ((lies t (t.take s)).filter fun p => decide (p + s ≤ e)) 0 i (by unfold rch at h; rw [h]; exact hi)
    rcases this with h | ⟨p, hp, a, b⟩
    · omega
    · obtain ⟨c, d⟩ := (mem_rl hs he).mp hp
      exact ⟨p, a, b, c, d⟩
  · intro ⟨_, _, _, h⟩
    have hle := rch_le hs he
    by_cases c : rch t s e < e
    · obtain ⟨p, a1, a2, a3, a4⟩ := h _ c
      have := reach_out s ((lies t (t.take s)).filter fun p => decide (p + s ≤ e)) 0 (srt_rl t s e) (fun _ _ => Nat.zero_le _) p ((mem_rl hs he).mpr ⟨a3, a4⟩) a1
      unfold rch at a2
      omega
    · omega
theorem Cvr.suffix {t : List Str} {s e : Nat} (h : Cvr t s e) : Oc t s (e - s) := by
  obtain ⟨h1, h2, h3, h4⟩ := h
  obtain ⟨p, a1, a2, a3, a4⟩ := h4 (e - 1) (by omega)
  rw [show e - s = p by omega]; exact a4
theorem Cvr.trans {t : List Str} {s g e : Nat} (h : Cvr t s g) (h2 : Cvr t g e) : Cvr t s e := by
  obtain ⟨a1, a2, a3, a4⟩ := h
  obtain ⟨b1, b2, b3, b4⟩ := h2
  refine ⟨a1, by omega, b3, fun i hi => ?_⟩
  obtain ⟨p, c1, c2, c3, c4⟩ := b4 i hi
  obtain ⟨q, d1, d2, d3, d4⟩ := a4 (i - p) (by omega)
  refine ⟨p + q, by omega, by omega, by omega, fun j hj => ?_⟩
  rw [Nat.add_assoc, c4 (q + j) (by omega), d4 j hj]
theorem Cvr.down {t : List Str} {s g e : Nat} (h : Cvr t s e) (h2 : Cvr t g e) (hl : s ≤ g) : Cvr t s g := by
  have hs := h.suffix
  have hg := h2.suffix
  obtain ⟨a1, a2, a3, a4⟩ := h
  obtain ⟨b1, b2, b3, b4⟩ := h2
  refine ⟨a1, hl, by omega, fun i hi => ?_⟩
  obtain ⟨p, c1, c2, c3, c4⟩ := a4 i (by omega)
  by_cases c : p + s ≤ g
  · exact ⟨p, c1, c2, c, c4⟩
  · refine ⟨g - s, by omega, by omega, by omega, fun j hj => ?_⟩
    have := hg (g - s + j) (by omega)
    rw [← this, ← hs j hj]
    congr 1; omega
theorem Cvr.self {t : List Str} {e : Nat} (h1 : 1 ≤ e) (h2 : e ≤ t.length) : Cvr t e e := ⟨h1, Nat.le_refl _, h2, fun i hi => ⟨0, by omega, by omega, by omega, fun j hj => by rw [Nat.zero_add]⟩⟩
theorem Cvr.isB {t : List Str} {s e : Nat} (h : Cvr t s e) (hl : s < e) : isB t e s := by
  have hs := h.suffix
  exact ⟨hl, h.2.2.1, fun j hj => (hs j hj).symm⟩
theorem rch_step {t : List Str} {s e : Nat} (h1 : 1 ≤ s) (hs : s ≤ e) (he : e < t.length) : rch t s (e + 1) = if Oc t s (e + 1 - s) ∧ e + 1 - s ≤ rch t s e then e + 1 else rch t s e := by
  have hst : s ≤ t.length := by omega
  have hf : (lies t (t.take s)).filter (fun p => decide (p + s ≤ e + 1)) = (lies t (t.take s)).filter (fun p => decide (p + s ≤ e)) ++ if Oc t s (e + 1 - s) then [e + 1 - s] else [] := by
    refine srt_ext (srt_rl _ _ _) ?_ fun p => ?_
    · rw [Srt, List.pairwise_append]
      refine ⟨srt_rl _ _ _, ?_, fun a ha b hb => ?_⟩
      · by_cases c : Oc t s (e + 1 - s)
        · rw [if_pos c]; exact List.pairwise_singleton _ _
        · rw [if_neg c]; exact List.Pairwise.nil
      · by_cases c : Oc t s (e + 1 - s)
        · rw [if_pos c] at hb
          rw [List.mem_singleton.mp hb]
          have := ((mem_rl hst (by omega)).mp ha).1
          omega
        · rw [if_neg c] at hb; cases hb
    · rw [mem_rl hst (by omega), List.mem_append, mem_rl hst (by omega)]
      constructor
      · intro ⟨a, b⟩
        by_cases c : p + s ≤ e
        · exact .inl ⟨c, b⟩
        · have e2 : p = e + 1 - s := by omega
          subst e2
          rw [if_pos b]; exact .inr (List.mem_singleton.mpr rfl)
      · rintro (⟨a, b⟩ | a)
        · exact ⟨by omega, b⟩
        · by_cases c : Oc t s (e + 1 - s)
          · rw [if_pos c] at a
            rw [List.mem_singleton.mp a]
            exact ⟨by omega, c⟩
          · rw [if_neg c] at a; cases a
  unfold rch
  rw [hf, ← reach_fold, ← reach_fold, List.foldl_append]
  by_cases c : Oc t s (e + 1 - s)
  · rw [if_pos c, List.foldl_cons, List.foldl_nil]
    by_cases d : e + 1 - s ≤ (List.foldl (fun r p => if p ≤ r then p + s else r) 0 ((lies t (t.take s)).filter fun p => decide (p + s ≤ e)))
    · rw [if_pos d, if_pos ⟨c, d⟩]; omega
    · rw [if_neg d, if_neg fun h => d h.2]
  · rw [if_neg c, if_neg fun h => c h.1]; rfl
end Ov
namespace Ov
open PySem (Str PyData)
open MV
section
variable (t w : List Str)
end
section
variable {t w : List Str}
end
end Ov
namespace Ov
open PySem (Str PyData)
open MV
section
variable {t w : List Str}
end
end Ov
namespace Ov
open PySem (Str PyData)
open MV
section
variable {t w : List Str}
end
end Ov
namespace Ov
open PySem (Str PyData)
open MV
abbrev xs21 : List Str := [(Str.ofString "NoWord"), (Str.ofString "NoSign"), (Str.ofString "NoText"), (Str.ofString "NoCover"), (Str.ofString "TooMany")]
inductive Nm : Str → Str → Prop
  | word : Nm (Str.ofString "NoWord") (Str.ofString "word")
  | sign : Nm (Str.ofString "NoSign") (Str.ofString "sign")
  | text : Nm (Str.ofString "NoText") (Str.ofString "text")
  | cover : Nm (Str.ofString "NoCover") (Str.ofString "cover")
  | many : Nm (Str.ofString "TooMany") (Str.ofString "many")
theorem Nm.mem {c n : Str} (h : Nm c n) : c ∈ xs21 := by
  cases h <;> simp [xs21]
theorem Gd.filter {t : List Str} (h : Gd t) (p : Str → Bool) : Gd (t.filter p) := fun x hx => h x (List.mem_filter.mp hx).1
theorem Gd.take {t : List Str} (h : Gd t) (k : Nat) : Gd (t.take k) := fun x hx => h x (List.mem_of_mem_take hx)
theorem Gd.drop {t : List Str} (h : Gd t) (k : Nat) : Gd (t.drop k) := fun x hx => h x (List.mem_of_mem_drop hx)
end Ov
namespace Ov
open PySem (Str PyData)
open MV
end Ov
namespace Ov
open PySem (Str PyData)
open MV
end Ov
namespace Ov
open PySem (Str)
open MV
theorem mem_ends {t : List Str} {s e : Nat} (h1 : 1 ≤ s) (hs : s ≤ t.length) : e ∈ wlk s 0 (lies t (t.take s)) ↔ Cvr t s e := by
  have hls : (t.take s).length = s := by rw [List.length_take]; omega
  rw [wlk_due (w := s) (n := t.length) (by omega) (srt_lies _ _) (fun p hp => by have := lies_lt hp; rw [hls] at this; exact this), List.mem_filter, List.mem_range'_1]
  constructor
  · intro ⟨a, b⟩
    have b := of_decide_eq_true b
    have hle : s ≤ e := by
      rcases reach_mem s ((lies t (t.take s)).filter fun p => decide (p + s ≤ e)) 0 with q | ⟨p, hp, q⟩
      · rw [q] at b; omega
      · rw [q] at b; omega
    exact (rch_iff h1 hle (by omega)).mp b
  · intro h
    have := h.2.1
    have h3 := h.2.2.1
    exact ⟨by omega, decide_eq_true ((rch_iff h1 h.2.1 h.2.2.1).mpr h)⟩
def isGC (t : List Str) (e g : Nat) : Prop := (g = 0 ∨ (g < e ∧ Cvr t g e)) ∧ ∀ s, s < e → Cvr t s e → s ≤ g
def isSC (t : List Str) (e s : Nat) : Prop := Cvr t s e ∧ ∀ s', Cvr t s' e → s ≤ s'
def PL (P : Nat → Nat → Prop) (L : List Nat) (n : Nat) : Prop := L.length = n ∧ ∀ m, m < n → ∃ g, L[m]? = some g ∧ P (m + 1) g
theorem PL.snoc {P : Nat → Nat → Prop} {L : List Nat} {n g : Nat} (h : PL P L n) (hg : P (n + 1) g) : PL P (L ++ [g]) (n + 1) := by
  refine ⟨by rw [List.length_append, h.1]; rfl, fun m hm => ?_⟩
  by_cases q : m = n
  · subst q; exact ⟨g, by rw [List.getElem?_append_right (by rw [h.1]; omega), h.1]; simp, hg⟩
  · obtain ⟨g, g1, g2⟩ := h.2 m (by omega)
    exact ⟨g, by rw [List.getElem?_append_left (by rw [h.1]; omega)]; exact g1, g2⟩
theorem PL.at {P : Nat → Nat → Prop} {L : List Nat} {n m : Nat} (h : PL P L n) (hm : m < n) : ∃ g : Nat, L2.atI (L.map fun k : Nat => D.int (k : Int)) (m : Int) = some (.int (g : Nat)) ∧ P (m + 1) g := by
  obtain ⟨g, g1, g2⟩ := h.2 m hm
  have hgl : m < L.length := by rw [h.1]; exact hm
  refine ⟨g, ?_, g2⟩
  rw [dN_at hgl]
  rw [List.getElem?_eq_getElem hgl] at g1; rw [Option.some.inj g1]
def rho (t : List Str) (s e : Nat) : Nat := if s ≤ e then (if s = 0 then 0 else rch t s e) else s
theorem rch_start {t : List Str} {s : Nat} (h1 : 1 ≤ s) (hs : s ≤ t.length) : rch t s s = s := (rch_iff h1 (Nat.le_refl _) hs).mpr (Cvr.self h1 hs)
theorem rho_other {t : List Str} {s e : Nat} (he : e < t.length) (h : ¬ isB t (e + 1) s ∨ s = 0) : rho t s (e + 1) = rho t s e := by
  unfold rho
  by_cases h0 : s = 0
  · subst h0; simp
  · by_cases c : s ≤ e
    · rw [if_pos (by omega), if_pos c, if_neg h0, if_neg h0, rch_step (by omega) c he, if_neg]
      rintro ⟨a, -⟩
      exact (h.resolve_right h0) ⟨by omega, by omega, fun j hj => (a j hj).symm⟩
    · by_cases d : s = e + 1
      · subst d
        rw [if_pos (Nat.le_refl _), if_neg h0, rch_start (by omega) (by omega), if_neg c]
      · rw [if_neg (by omega), if_neg (by omega)]
theorem rho_bord {t : List Str} {s e : Nat} (h1 : 1 ≤ s) (h : isB t (e + 1) s) : rho t s (e + 1) = if e + 1 - s ≤ rho t s e then e + 1 else rho t s e := by
  have ha := h.1
  have hb := h.2.1
  have r1 : rho t s (e + 1) = rch t s (e + 1) := by unfold rho; rw [if_pos (by omega), if_neg (by omega)]
  have r2 : rho t s e = rch t s e := by unfold rho; rw [if_pos (by omega), if_neg (by omega)]
  rw [r1, r2, rch_step h1 (by omega) (by omega)]
  have : Oc t s (e + 1 - s) := fun j hj => (h.2.2 j hj).symm
  by_cases c : e + 1 - s ≤ rch t s e
  · rw [if_pos ⟨this, c⟩, if_pos c]
  · rw [if_neg fun h => c h.2, if_neg c]
theorem rho_cov {t : List Str} {s e : Nat} (h1 : 1 ≤ s) (h : s ≤ e) (he : e ≤ t.length) : rho t s e = e ↔ Cvr t s e := by
  unfold rho
  rw [if_pos h, if_neg (by omega)]
  exact rch_iff h1 h he
end Ov
namespace Ov
open PySem (Str)
open MV
def RL (t : List Str) (e k : Nat) (Rl : List Nat) : Prop := Rl.length = t.length + 1 ∧ ∀ s, s ≤ t.length → ∃ x, Rl[s]? = some x ∧ (isB t (e + 1) s ∧ k < s → x = rho t s (e + 1)) ∧ (¬ (isB t (e + 1) s ∧ k < s) → x = rho t s e)
def GI (t : List Str) (e k g : Nat) : Prop := (g = 0 ∨ (k < g ∧ g < e + 1 ∧ Cvr t g (e + 1))) ∧ ∀ s, k < s → s < e + 1 → Cvr t s (e + 1) → s ≤ g
theorem rho_le {t : List Str} {s e : Nat} (h : s ≤ e) (he : e ≤ t.length) : rho t s e ≤ e := by
  unfold rho
  rw [if_pos h]
  by_cases c : s = 0
  · rw [if_pos c]; omega
  · rw [if_neg c]; exact rch_le (by omega) he
theorem RL.step {t : List Str} {e k k' y : Nat} {Rl : List Nat} (h : RL t e k Rl) (hk : isB t (e + 1) k) (hg : isG t k k') (hy : y = rho t k (e + 1)) : RL t e k' (Rl.set k y) := by
  refine ⟨by rw [List.length_set]; exact h.1, fun s hs => ?_⟩
  have hkl : k < Rl.length := by rw [h.1]; have := hk.1; have := hk.2.1; omega
  have hlt := hg.1.1
  by_cases c : s = k
  · subst c
    refine ⟨y, by rw [List.getElem?_set_self hkl], fun _ => hy, fun q => absurd ⟨hk, hlt⟩ q⟩
  · obtain ⟨x, x1, x2, x3⟩ := h.2 s hs
    refine ⟨x, by rw [List.getElem?_set_ne (Ne.symm c)]; exact x1, fun q => ?_, fun q => ?_⟩
    · refine x2 ⟨q.1, ?_⟩
      by_cases d : s < k
      · have := hg.2 s (isB_down hk q.1 d); omega
      · omega
    · exact x3 fun z => q ⟨z.1, by omega⟩
theorem gc_while {t : List Str} {G Rl f : List Nat} {e k0 : Nat} (hl : t.length ≤ 900) (he : e < t.length) (hG : Gs t G t.length) (hk : isG t (e + 1) k0) (hR : RL t e k0 Rl) :
    ∃ Rl' g, sWhile T_greatest_covers_l1 B_greatest_covers_l2 WFUEL [some (dT t), some (dN G), some (dN Rl), some (dN f), some (.int ((e : Int) + 1)), some (.int 0), some (.int (k0 : Nat))] = .ok .nx [some (dT t), some (dN G), some (dN Rl'), some (dN f), some (.int ((e : Int) + 1)), some (.int (g : Nat)), some (.int 0)] ∧ RL t e 0 Rl' ∧ GI t e 0 g := by
  obtain ⟨e', h1, Rl', g, rfl, h2⟩ := while_inv (t := T_greatest_covers_l1) (b := B_greatest_covers_l2)
    (fun v => ∃ (Rl' : List Nat) (g k : Nat), v = [some (dT t), some (dN G), some (dN Rl'), some (dN f), some (.int ((e : Int) + 1)), some (.int (g : Nat)), some (.int (k : Nat))] ∧ isB t (e + 1) k ∧ RL t e k Rl' ∧ GI t e k g)
    (fun v => match (v[6]? : Option (Option D)) with | some (some (D.int k)) => k.toNat | _ => 0)
    (fun v => ∃ (Rl' : List Nat) (g : Nat), v = [some (dT t), some (dN G), some (dN Rl'), some (dN f), some (.int ((e : Int) + 1)), some (.int (g : Nat)), some (.int 0)] ∧ RL t e 0 Rl' ∧ GI t e 0 g)
    (fun v hv => by
      obtain ⟨Rl', g, k, rfl, q1, q2, q3⟩ := hv
      have hke := q1.1
      by_cases c1 : k = 0
      · subst c1
        refine ⟨false, _, ?_, Rl', g, rfl, q2, q3⟩
        simp [T_greatest_covers_l1]
      · have c1' : 0 < k := by omega
        obtain ⟨m, m1, m2⟩ := hG.at (m := k - 1) (by omega)
        rw [show k - 1 + 1 = k by omega] at m2
        rw [show ((k - 1 : Nat) : Int) = (k : Int) - 1 by omega] at m1
        obtain ⟨x, x1, -, x3⟩ := q2.2 k (by omega)
        have hx : x = rho t k e := x3 fun z => by omega
        have hkl : k < Rl'.length := by rw [q2.1]; omega
        have xa : L2.atI (Rl'.map fun k : Nat => D.int (k : Int)) (k : Int) = some (.int (x : Nat)) := by
          rw [dN_at hkl]; rw [List.getElem?_eq_getElem hkl] at x1; rw [Option.some.inj x1]
        have hxl := rho_le (t := t) (s := k) (e := e) (by omega) (by omega)
        refine ⟨true, [some (dT t), some (dN G), some (dN Rl'), some (dN f), some (.int ((e : Int) + 1)), some (.int (g : Nat)), some (.int (k : Nat))], ?_, ?_⟩
        · simp [T_greatest_covers_l1, c1']
        · rw [if_pos rfl]
          have hrb := rho_bord c1' q1
          by_cases c : e + 1 - k ≤ x
          · have ci : (e : Int) + 1 - (k : Int) ≤ (x : Int) := by omega
            rw [← hx, if_pos c] at hrb
            refine ⟨.nx, [some (dT t), some (dN G), some (dN (Rl'.set k (e + 1))), some (dN f), some (.int ((e : Int) + 1)), some (.int ((max g k : Nat) : Int)), some (.int (m : Nat))], ?_, .inl rfl, ⟨_, _, m, rfl, isB_trans q1 m2.1, q2.step q1 m2 hrb.symm, ?_⟩, ?_⟩
            · simp [B_greatest_covers_l2, xa, ci, ixN_nat hkl, max_val, -gMax2_i, m1, List.map_set]
            · have hcv : Cvr t k (e + 1) := (rho_cov c1' (by omega) (by omega)).mp hrb
              refine ⟨.inr ?_, fun s s1 s2 s3 => ?_⟩
              · rcases q3.1 with z | ⟨z1, z2, z3⟩
                · rw [z, Nat.max_eq_right (Nat.zero_le _)]; exact ⟨m2.1.1, by omega, hcv⟩
                · rw [Nat.max_eq_left (by omega)]; exact ⟨by have := m2.1.1; omega, z2, z3⟩
              · by_cases d : k < s
                · have := q3.2 s d s2 s3; omega
                · by_cases d2 : s = k
                  · omega
                  · have := m2.2 s (isB_down q1 (s3.isB s2) (by omega)); omega
            · show (m : Int).toNat < (k : Int).toNat
              have := m2.1.1; omega
          · have ci : ¬ (e : Int) + 1 - (k : Int) ≤ (x : Int) := by omega
            rw [← hx, if_neg c] at hrb
            have hset : Rl'.set k x = Rl' := by
              apply List.ext_getElem?
              intro i
              by_cases d : k = i
              · subst d; rw [List.getElem?_set_self hkl, x1]
              · rw [List.getElem?_set_ne d]
            have hst := q2.step q1 m2 hrb.symm
            rw [hset] at hst
            refine ⟨.nx, [some (dT t), some (dN G), some (dN Rl'), some (dN f), some (.int ((e : Int) + 1)), some (.int (g : Nat)), some (.int (m : Nat))], ?_, .inl rfl, ⟨_, _, m, rfl, isB_trans q1 m2.1, hst, ?_⟩, ?_⟩
            · simp [B_greatest_covers_l2, xa, ci, m1]
            · refine ⟨?_, fun s s1 s2 s3 => ?_⟩
              · rcases q3.1 with z | ⟨z1, z2, z3⟩
                · exact .inl z
                · exact .inr ⟨by have := m2.1.1; omega, z2, z3⟩
              · by_cases d : k < s
                · exact q3.2 s d s2 s3
                · by_cases d2 : s = k
                  · subst d2
                    have := (rho_cov c1' (by omega) (by omega)).mpr s3
                    omega
                  · have := m2.2 s (isB_down q1 (s3.isB s2) (by omega)); omega
            · show (m : Int).toNat < (k : Int).toNat
              have := m2.1.1; omega)
    WFUEL [some (dT t), some (dN G), some (dN Rl), some (dN f), some (.int ((e : Int) + 1)), some (.int 0), some (.int (k0 : Nat))]
    ⟨Rl, 0, k0, rfl, hk.1, hR, .inl rfl, fun s s1 s2 s3 => by have := hk.2 s (s3.isB s2); omega⟩ (by show (k0 : Int).toNat < 1000000; have := hk.1.1; omega)
  exact ⟨Rl', g, h1, h2⟩
def RA (t : List Str) (e : Nat) (Rl : List Nat) : Prop := Rl.length = t.length + 1 ∧ ∀ s, s ≤ t.length → Rl[s]? = some (rho t s e)
theorem gc_row {t : List Str} {G Rl f : List Nat} {e : Nat} {x5 x6 : Option D} (hl : t.length ≤ 900) (he : e < t.length) (hG : Gs t G t.length) (hR : RA t e Rl) (hf : f.length < LIM) :
    ∃ Rl' g y5 y6, B_greatest_covers_l3 [some (dT t), some (dN G), some (dN Rl), some (dN f), some (.int ((e : Int) + 1)), x5, x6] = .ok .nx [some (dT t), some (dN G), some (dN Rl'), some (dN (f ++ [g])), some (.int ((e : Int) + 1)), y5, y6] ∧ RA t (e + 1) Rl' ∧ isGC t (e + 1) g := by
  obtain ⟨k0, k1, k2⟩ := hG.at (m := e) he
  obtain ⟨Rl', g, w1, w2, w3⟩ := gc_while (f := f) hl he hG k2 (Rl := Rl) ⟨hR.1, fun s hs => ⟨_, hR.2 s hs, fun q => by have := k2.2 s q.1; omega, fun _ => rfl⟩⟩
  refine ⟨Rl', g, some (.int (g : Nat)), some (.int 0), ?_, ⟨w2.1, fun s hs => ?_⟩, ?_⟩
  · simp [B_greatest_covers_l3, k1, w1, hf]
  · obtain ⟨x, x1, x2, x3⟩ := w2.2 s hs
    rw [x1]
    congr 1
    by_cases c : isB t (e + 1) s ∧ 0 < s
    · exact x2 c
    · rw [x3 c, rho_other he]
      by_cases d : s = 0
      · exact .inr d
      · exact .inl fun z => c ⟨z, by omega⟩
  · refine ⟨?_, fun s s2 s3 => w3.2 s s3.1 s2 s3⟩
    rcases w3.1 with z | ⟨_, z2, z3⟩
    · exact .inl z
    · exact .inr ⟨z2, z3⟩
theorem rho_zero {t : List Str} (s : Nat) : rho t s 0 = s := by
  unfold rho
  by_cases c : s ≤ 0
  · rw [if_pos c, if_pos (by omega)]; omega
  · rw [if_neg c]
theorem gc_val {t : List Str} (ht : Tx t) (hl : t.length ≤ 900) : ∃ Gc, F_greatest_covers [dT t] = .ok (dN Gc) (dT t) ∧ PL (isGC t) Gc t.length := by
  obtain ⟨G, G1, G2⟩ := gb_val (t := t) (by omega)
  have hs : smallI ((t.length : Int) + 1) = true := small_of (by omega) (by omega)
  have hs1 : smallI 1 = true := by decide
  have hL1 : (t.length : Int) + 1 ≤ ((LIM : Nat) : Int) := by show (t.length : Int) + 1 ≤ ((100000 : Nat) : Int); omega
  have hL2 : t.length + 1 ≤ LIM := by show _ ≤ 100000; omega
  have e0 : ((t.length : Int) + 1).toNat = t.length + 1 := by omega
  have r0 : rngD 0 (t.length + 1) = (List.range (t.length + 1)).map fun k : Nat => D.int (k : Int) := rng0 _
  obtain ⟨e', h1, Rl, f, x4, x5, x6, rfl, q1, q2⟩ := for_inv (tg := tgN 4) (b := B_greatest_covers_l3) (ds := rngD 1 t.length) (e := [some (dT t), some (dN G), some (dN (List.range (t.length + 1))), some (.lst []), none, none, none])
    (fun i e => ∃ (Rl f : List Nat) (x4 x5 x6 : Option D), e = [some (dT t), some (dN G), some (dN Rl), some (dN f), x4, x5, x6] ∧ (i ≤ t.length → RA t i Rl) ∧ PL (isGC t) f i)
    ⟨List.range (t.length + 1), [], none, none, none, rfl, fun _ => ⟨List.length_range, fun s hs => by rw [List.getElem?_range (by omega), rho_zero]⟩, rfl, fun m hm => by omega⟩
    (fun i d e hd hi => by
      obtain ⟨Rl, f, x4, x5, x6, rfl, q1, q2⟩ := hi
      obtain ⟨hi, rfl⟩ := rngN_get (m := 1) hd
      obtain ⟨Rl', g, y5, y6, a1, a2, a3⟩ := gc_row (x5 := x5) (x6 := x6) hl hi G2 (q1 (by omega)) (f := f) (by rw [q2.1]; show _ < 100000; omega)
      rw [show ((1 + i : Nat) : Int) = (i : Int) + 1 by omega]
      exact ⟨_, _, .nx, rfl, a1, .inl rfl, _, _, _, _, _, rfl, fun _ => a2, q2.snoc a3⟩)
  rw [rngD_len] at q2
  refine ⟨f, ?_, q2⟩
  simp only [F_greatest_covers, r_runF, B_greatest_covers]
  simp [need_signs_val ht (show t.length ≤ 100000 by omega), G1, hs, hs1, e0, hL2, r0, h1, hsz0, List.all_map]
theorem isSC_of {t : List Str} {e g s : Nat} (he1 : 1 ≤ e) (he : e ≤ t.length) (hg : isGC t e g) : (g = 0 → isSC t e e) ∧ (g ≠ 0 → isSC t g s → isSC t e s) := by
  refine ⟨fun h0 => ⟨Cvr.self he1 he, fun s' h => ?_⟩, fun h0 hs => ?_⟩
  · by_cases c : e ≤ s'
    · exact c
    · have := hg.2 s' (by omega) h; have := h.1; omega
  · obtain ⟨g1, g2⟩ := hg.1.resolve_left h0
    refine ⟨hs.1.trans g2, fun s' h => ?_⟩
    by_cases c : s' ≤ g
    · exact hs.2 s' (h.down g2 c)
    · have := hs.1.2.1; omega
theorem enumN_get {l : List Nat} {i : Nat} {d : D} (h : (enumD (l.map fun k : Nat => D.int (k : Int)))[i]? = some d) : ∃ hi : i < l.length, d = .tup [.int (i : Int), .int (l[i] : Nat)] := by
  have hi : i < l.length := by
    have := (List.getElem?_eq_some_iff.mp h).1
    rw [enumD_len, List.length_map] at this; exact this
  refine ⟨hi, ?_⟩
  unfold enumD at h
  simp [hi] at h
  exact h.symm
theorem sc_val {t : List Str} (ht : Tx t) (hl : t.length ≤ 900) : ∃ Sc, F_shortest_covers [dT t] = .ok (dN Sc) (dT t) ∧ PL (isSC t) Sc t.length := by
  obtain ⟨G, G1, G2⟩ := gc_val ht hl
  obtain ⟨e', h1, f, x2, x3, rfl, q2⟩ := for_inv (tg := tgT [2, 3]) (b := B_shortest_covers_l1) (ds := enumD (G.map fun k : Nat => D.int (k : Int))) (e := [some (dT t), some (.lst []), none, none])
    (fun i e => ∃ (f : List Nat) (x2 x3 : Option D), e = [some (dT t), some (dN f), x2, x3] ∧ PL (isSC t) f i)
    ⟨[], none, none, rfl, rfl, fun m hm => by omega⟩
    (fun i d e hd hi => by
      obtain ⟨f, x2, x3, rfl, q⟩ := hi
      obtain ⟨hi, rfl⟩ := enumN_get hd
      have hit : i < t.length := by rw [← G2.1]; exact hi
      obtain ⟨g, g1, g2⟩ := G2.2 i hit
      rw [List.getElem?_eq_getElem hi] at g1
      rw [Option.some.inj g1]
      have hfl : f.length < LIM := by rw [q.1]; show _ < 100000; omega
      by_cases c : g = 0
      · refine ⟨_, _, .nx, rfl, ?_, .inl rfl, f ++ [i + 1], some (.int (i : Int)), some (.int (g : Nat)), rfl, q.snoc ((isSC_of (s := 0) (by omega) (by omega) g2).1 c)⟩
        subst c
        simp [B_shortest_covers_l1, hfl]
      · obtain ⟨gl, gc⟩ := g2.1.resolve_left c
        obtain ⟨y, y1, y2⟩ := q.at (m := g - 1) (by omega)
        rw [show g - 1 + 1 = g by omega] at y2
        rw [show ((g - 1 : Nat) : Int) = (g : Int) - 1 by omega] at y1
        refine ⟨_, _, .nx, rfl, ?_, .inl rfl, f ++ [y], some (.int (i : Int)), some (.int (g : Nat)), rfl, q.snoc ((isSC_of (s := y) (by omega) (by omega) g2).2 c y2)⟩
        simp [B_shortest_covers_l1, c, y1, hfl])
  rw [enumD_len, List.length_map, G2.1] at q2
  refine ⟨f, ?_, q2⟩
  simp only [F_shortest_covers, r_runF, B_shortest_covers]
  simp [G1, h1, hsz0]
end Ov
namespace Ov
open PySem (Str PyData)
open MV
def trow (G : List Nat) (i g : Nat) : List Nat := ((List.range i).filter fun m => decide (G[m]? = some g)).map (· + 1)
def trows (n : Nat) (G : List Nat) (i : Nat) : List D := (List.range (n + 1)).map fun g => dN (trow G i g)
theorem trows_len (n : Nat) (G : List Nat) (i : Nat) : (trows n G i).length = n + 1 := by unfold trows; rw [List.length_map, List.length_range]
theorem trow_succ (G : List Nat) (i g : Nat) : trow G (i + 1) g = trow G i g ++ if G[i]? = some g then [i + 1] else [] := by
  unfold trow
  rw [List.range_succ, List.filter_append, List.map_append]
  congr 1
  by_cases h : G[i]? = some g
  · simp [h]
  · simp [h]
theorem trows_set {n : Nat} {G : List Nat} {i g : Nat} (hg : g ≤ n) (h : G[i]? = some g) : (trows n G i).set g (dN (trow G i g ++ [i + 1])) = trows n G (i + 1) := by
  apply List.ext_getElem?
  intro j
  by_cases e : g = j
  · subst e
    rw [List.getElem?_set_self (by rw [trows_len]; omega)]
    unfold trows
    rw [List.getElem?_map, List.getElem?_range (by omega)]
    show _ = some (dN (trow G (i + 1) g))
    rw [trow_succ, if_pos h]
  · rw [List.getElem?_set_ne e]
    unfold trows
    rw [List.getElem?_map, List.getElem?_map]
    by_cases hj : j < n + 1
    · rw [List.getElem?_range hj]
      show some (dN (trow G i j)) = some (dN (trow G (i + 1) j))
      rw [trow_succ, if_neg (fun z => e (by rw [h] at z; exact Option.some.inj z)), List.append_nil]
    · rw [List.getElem?_eq_none (by rw [List.length_range]; omega)]; rfl
theorem app2_lst {i : Nat} {fi f : M D} {e : PEnv} {ds es : List D} {k : Nat} {x : D} (h : e[i]? = some (some (.lst ds))) (h1 : fi e = .ok (.int (k : Nat)) e) (hk : ds[k]? = some (.lst es)) (h2 : f e = .ok x e) (hx : x.sc = true) (hl : es.length < LIM) : sApp2 i fi f e = .ok .nx (e.set i (some (.lst (ds.set k (.lst (es ++ [x])))))) := by
  have hkl : k < ds.length := (List.getElem?_eq_some_iff.mp hk).1
  have hin : inner (.lst ds) (.int (k : Nat)) = some (k, es) := by
    show (L2.ixN ds.length (k : Int)).bind _ = _
    rw [ixN_nat hkl]
    show (match ds[k]? with | some (.lst es) => some (k, es) | _ => none) = _
    rw [hk]
  unfold sApp2
  simp only [h]
  rw [bnd_of_ok h1]
  simp only [hin]
  show bnd f _ e = _
  rw [bnd_of_ok h2, hx, decide_eq_true hl]
  rfl
theorem trow_len (G : List Nat) (i g : Nat) : (trow G i g).length ≤ i := by
  unfold trow
  rw [List.length_map]
  exact Nat.le_trans (List.length_filter_le _ _) (by rw [List.length_range]; exact Nat.le_refl _)
theorem tree_val {t : List Str} (ht : Tx t) (hl : t.length ≤ 900) : ∃ G, F_greatest_covers [dT t] = .ok (dN G) (dT t) ∧ PL (isGC t) G t.length ∧ F_cover_tree [dT t] = .ok (.lst (trows t.length G t.length)) (dT t) := by
  obtain ⟨G, G1, G2⟩ := gc_val ht hl
  refine ⟨G, G1, G2, ?_⟩
  have hs : smallI ((t.length : Int) + 1) = true := small_of (by omega) (by omega)
  have e1 : ((t.length : Int) + 1).toNat = t.length + 1 := by omega
  have h0 := lc_nat (is := [4]) (tg := tgN 4) (t := tTrue) (fe := eN gLst aNil) (e := [some (dT t), none, none, none, none]) (fun _ => true) (fun _ => .lst []) (List.range (t.length + 1)) (by rw [List.length_range]; show _ ≤ 100000; omega)
    (fun k hk => ⟨_, [some (dT t), none, none, none, some (.int k)], rfl, rfl, fun _ => ⟨[some (dT t), none, none, none, some (.int k)], by simp [hsz0], rfl⟩, fun h => by cases h⟩)
  rw [List.filter_eq_self.mpr (fun _ _ => rfl)] at h0
  have hz : ((List.range (t.length + 1)).map fun _ : Nat => D.lst []) = trows t.length G 0 := rfl
  rw [hz] at h0
  obtain ⟨e', h1, x2, x3, rfl⟩ := for_inv (tg := tgT [2, 3]) (b := B_cover_tree_l1) (ds := enumD (G.map fun k : Nat => D.int (k : Int))) (e := [some (dT t), some (.lst (trows t.length G 0)), none, none, none])
    (fun i e => ∃ (x2 x3 : Option D), e = [some (dT t), some (.lst (trows t.length G i)), x2, x3, none])
    ⟨none, none, rfl⟩
    (fun i d e hd hi => by
      obtain ⟨x2, x3, rfl⟩ := hi
      obtain ⟨hi, rfl⟩ := enumN_get hd
      have hit : i < t.length := by rw [← G2.1]; exact hi
      obtain ⟨g, g1, g2⟩ := G2.2 i hit
      have g1' := g1
      rw [List.getElem?_eq_getElem hi] at g1'
      rw [Option.some.inj g1']
      have hgl : g ≤ t.length := by
        rcases g2.1 with z | z
        · omega
        · omega
      refine ⟨_, [some (dT t), some (.lst (trows t.length G (i + 1))), some (.int (i : Int)), some (.int (g : Nat)), none], .nx, rfl, ?_, .inl rfl, _, _, rfl⟩
      have hk : (trows t.length G i)[g]? = some (dN (trow G i g)) := by
        unfold trows
        rw [List.getElem?_map, List.getElem?_range (by omega)]; rfl
      have := trow_len G i g
      have ap := app2_lst (i := 1) (fi := eV 3) (f := e2 gAdd (eV 2) (eC (.int 1))) (e := [some (dT t), some (.lst (trows t.length G i)), some (.int (i : Int)), some (.int (g : Nat)), none]) (ds := trows t.length G i) (es := (trow G i g).map fun k : Nat => D.int (k : Int)) (k := g) (x := .int ((i : Int) + 1)) rfl rfl hk rfl rfl (by rw [List.length_map]; show _ < 100000; omega)
      show B_cover_tree_l1 _ = _
      unfold B_cover_tree_l1
      refine ap.trans ?_
      have e3 : D.lst (((trow G i g).map fun k : Nat => D.int (k : Int)) ++ [.int ((i : Int) + 1)]) = dN (trow G i g ++ [i + 1]) := by
        show _ = D.lst _
        rw [List.map_append]; rfl
      rw [e3, trows_set hgl g1]
      rfl)
  rw [enumD_len, List.length_map, G2.1] at h1
  simp only [F_cover_tree, r_runF, B_cover_tree]
  rw [← rng0] at h0
  simp [hs, e1, h0, G1, h1]
def hmS (L : List Nat) (g : Nat) : Nat := 1 + if g = 0 then 0 else L.getD (g - 1) 0
theorem hm_val {t : List Str} (ht : Tx t) (hl : t.length ≤ 900) {G : List Nat} (G1 : F_greatest_covers [dT t] = .ok (dN G) (dT t)) (G2 : PL (isGC t) G t.length) : ∃ L : List Nat, F_how_many_covers [dT t] = .ok (dN L) (dT t) ∧ L.length = t.length ∧ ∀ i g, G[i]? = some g → L[i]? = some (hmS (L.take i) g) := by
  obtain ⟨e', h1, L, x2, x3, rfl, q1, q2⟩ := for_inv (tg := tgN 2) (b := B_how_many_covers_l1) (ds := G.map fun k : Nat => D.int (k : Int)) (e := [some (dT t), some (.lst []), none, none])
    (fun i e => ∃ (L : List Nat) (x2 x3 : Option D), e = [some (dT t), some (dN L), x2, x3] ∧ L.length = i ∧ ∀ j g, j < i → G[j]? = some g → L[j]? = some (hmS (L.take j) g))
    ⟨[], none, none, rfl, rfl, fun j g hj => by omega⟩
    (fun i d e hd hi => by
      obtain ⟨L, x2, x3, rfl, q1, q2⟩ := hi
      rw [List.getElem?_map] at hd
      cases hG : G[i]? with
      | none => rw [hG] at hd; cases hd
      | some g =>
        rw [hG] at hd
        cases hd
        have hit : i < t.length := by rw [← G2.1]; exact (List.getElem?_eq_some_iff.mp hG).1
        obtain ⟨g', g1, g2⟩ := G2.2 i hit
        rw [hG] at g1
        cases g1
        have hfl : L.length < LIM := by rw [q1]; show _ < 100000; omega
        have inv : ∀ j g', j < i + 1 → G[j]? = some g' → (L ++ [hmS L g])[j]? = some (hmS ((L ++ [hmS L g]).take j) g') := fun j g' hj hg' => by
          by_cases e : j = i
          · subst e
            rw [hG] at hg'
            cases hg'
            rw [List.getElem?_append_right (by omega), q1, List.take_append_of_le_length (by omega), ← q1, List.take_length]
            simp
          · rw [List.getElem?_append_left (by omega), List.take_append_of_le_length (by omega)]
            exact q2 j g' (by omega) hg'
        by_cases c : g = 0
        · subst c
          refine ⟨_, [some (dT t), some (dN (L ++ [hmS L 0])), some (.int 0), some (.int 0)], .nx, rfl, ?_, .inl rfl, L ++ [hmS L 0], _, _, rfl, by rw [List.length_append, q1]; rfl, inv⟩
          simp [B_how_many_covers_l1, hfl, hmS]
        · obtain ⟨gl, gc⟩ := g2.1.resolve_left c
          have hgi : g - 1 < L.length := by omega
          have y1 : L2.atI (L.map fun k : Nat => D.int (k : Int)) ((g : Int) - 1) = some (.int (L[g - 1] : Nat)) := by
            rw [show ((g : Int) - 1) = ((g - 1 : Nat) : Int) by omega, atI_eq, List.getElem?_map, List.getElem?_eq_getElem hgi]; rfl
          have hpos : (0 : Int) < (g : Int) := by omega
          have hpos' : 0 < g := by omega
          have hs : hmS L g = 1 + L[g - 1] := by
            unfold hmS
            rw [if_neg c, List.getD_eq_getElem?_getD, List.getElem?_eq_getElem hgi]; rfl
          refine ⟨_, [some (dT t), some (dN (L ++ [hmS L g])), some (.int (g : Nat)), some (.int (L[g - 1] : Nat))], .nx, rfl, ?_, .inl rfl, L ++ [hmS L g], _, _, rfl, by rw [List.length_append, q1]; rfl, inv⟩
          rw [hs]
          simp [B_how_many_covers_l1, hfl, hpos, hpos', y1])
  rw [List.length_map, G2.1] at q1 q2
  refine ⟨L, ?_, q1, fun i g h => q2 i g (by rw [← G2.1]; exact (List.getElem?_eq_some_iff.mp h).1) h⟩
  simp only [F_how_many_covers, r_runF, B_how_many_covers]
  simp [hsz0, G1, h1]
theorem index_nat {L : List Nat} {m : Nat} (h : m ∈ L) : gIndex (dN L) [.int (m : Int)] = some (.int ((L.idxOf m : Nat) : Int)) := by
  have hs : (L.map fun k : Nat => D.int (k : Int)).all D.sc = true := by rw [List.all_map, List.all_eq_true]; intro x _; rfl
  rw [gIndex_l, hs]
  show (((L.map fun k : Nat => D.int (k : Int)).findIdx? fun z => eqD z (.int (m : Int))).map fun j => D.int (j : Nat)) = _
  rw [List.findIdx?_map]
  have : L.findIdx? ((fun z => eqD z (.int (m : Int))) ∘ fun k : Nat => D.int (k : Int)) = some (L.idxOf m) := by
    rw [show ((fun z => eqD z (.int (m : Int))) ∘ fun k : Nat => D.int (k : Int)) = fun k => k == m from by
      funext k
      show decide ((k : Int) = (m : Int)) = (k == m)
      rw [Bool.eq_iff_iff, decide_eq_true_iff, beq_iff_eq]
      omega]
    rw [List.findIdx?_eq_some_iff_getElem]
    have hlt := List.idxOf_lt_length_of_mem h
    refine ⟨hlt, ?_, fun j hj => ?_⟩
    · simp
    · have := List.not_of_lt_findIdx (p := fun k => k == m) (xs := L) (i := j) hj
      simpa using this
  rw [this]; rfl
end Ov
namespace Ov
open PySem (Str PyData)
open MV
theorem sIx_neg (n d k : Nat) (h : 0 < k) : HT.sIx n d (some (-(k : Int))) = n - k := by
  show (if -(k : Int) < 0 then (-(k : Int) + (n : Int)).toNat else min (-(k : Int)).toNat n) = n - k
  rw [if_pos (by omega)]
  omega
theorem cutA_neg_to {α : Type} (l : List α) (k : Nat) (h : 0 < k) : cutA l none (some (-(k : Int))) = l.take (l.length - k) := by
  unfold cutA
  rw [HT.sIx_none, sIx_neg _ _ _ h, List.drop_zero, Nat.sub_zero]
theorem cutA_init {α : Type} (l : List α) : cutA l none (some (-1)) = l.dropLast := by
  have := cutA_neg_to l 1 (by decide)
  rw [show -((1 : Nat) : Int) = -1 from rfl] at this
  rw [this, List.dropLast_eq_take]
section
variable {t w : List Str}
def b3 (t w : List Str) : D := .lst [.bl (rbV t w), .bl (raV t w), .bl (cbV t w)]
end
end Ov
namespace Ov
open PySem (Str)
open MV
def Ql (t : List Str) (s e x : Nat) : Prop := (x = 0 ∧ ∀ s', s' ≤ s → ¬ Cvr t s' e) ∨ (x ≤ s ∧ Cvr t x e ∧ ∀ s', Cvr t s' e → x ≤ s')
def Qg (t : List Str) (s e x : Nat) : Prop := (x = 0 ∨ (x < e ∧ Cvr t x e)) ∧ ∀ s', s' ≤ s → s' < e → Cvr t s' e → s' ≤ x
section
variable {t : List Str} {s e x : Nat}
theorem Ql.upd (hs : 1 ≤ s) (hc : Cvr t s e) (h : Ql t (s - 1) e x ∨ Ql t s e x) : Ql t s e (if x = 0 then s else x) := by
  have nz : ∀ {u : Nat}, Cvr t u e → u ≠ 0 := fun h => by have := h.1; omega
  by_cases c : x = 0
  · rw [if_pos c]
    refine .inr ⟨Nat.le_refl _, hc, fun s' h' => ?_⟩
    rcases h with (h | h) | (h | h)
    · by_cases d : s ≤ s'
      · exact d
      · exact absurd h' (h.2 s' (by omega))
    · exact absurd c (nz h.2.1)
    · exact absurd hc (h.2 s (Nat.le_refl _))
    · exact absurd c (nz h.2.1)
  · rw [if_neg c]
    rcases h with (h | h) | (h | h)
    · exact absurd h.1 c
    · exact .inr ⟨by omega, h.2⟩
    · exact absurd h.1 c
    · exact .inr h
theorem Qg.upd (hs : 1 ≤ s) (hc : Cvr t s e) (h : Qg t (s - 1) e x ∨ Qg t s e x) : Qg t s e (if s < e then s else x) := by
  by_cases c : s < e
  · rw [if_pos c]
    exact ⟨.inr ⟨c, hc⟩, fun s' h1 _ _ => h1⟩
  · rw [if_neg c]
    have := hc.2.1
    rcases h with h | h
    · exact ⟨h.1, fun s' h1 h2 h3 => h.2 s' (by omega) h2 h3⟩
    · exact h
end
def Mid (Q : Nat → Nat → Nat → Prop) (s : Nat) (E : List Nat) (A : List Nat) (n : Nat) : Prop := A.length = n ∧ ∀ m, m < n → ∃ x, A[m]? = some x ∧ (Q (s - 1) (m + 1) x ∨ Q s (m + 1) x) ∧ (m + 1 ∈ E → Q s (m + 1) x)
theorem Mid.set {Q : Nat → Nat → Nat → Prop} {s m n : Nat} {E A : List Nat} (h : Mid Q s E A n) (hm : m < n) {y : Nat} (hy : Q s (m + 1) y) : Mid Q s (E ++ [m + 1]) (A.set m y) n := by
  refine ⟨by rw [List.length_set]; exact h.1, fun k hk => ?_⟩
  by_cases c : m = k
  · subst c
    exact ⟨y, by rw [List.getElem?_set_self (by rw [h.1]; exact hm)], .inr hy, fun _ => hy⟩
  · obtain ⟨x, x1, x2, x3⟩ := h.2 k hk
    refine ⟨x, by rw [List.getElem?_set_ne c]; exact x1, x2, fun z => ?_⟩
    rcases List.mem_append.mp z with z | z
    · exact x3 z
    · exact absurd (List.mem_singleton.mp z) (by omega)
end Ov
namespace MV
open PySem PySem.Spec PyProof.Rows L2
def PostO (cf : Cf) (W : WX) (R : Rs) (Hs : Hp) (i : Nat) (D : Ends) : Res Fl → Prop
  | .ok (.rt d) env' => ∀ v Hs' σ' H' F' wf', Ex Hs Hs' → Rel cf R Hs' env' σ' H' F' wf' → Own cf.K (TH (rs Hs' R.H0)) H' (F' i) v d → D.rt v H'
  | .ok .nx env' => ∀ Hs' σ' H' F' wf', Ex Hs Hs' → Rel cf R Hs' env' σ' H' F' wf' → D.nx σ' H'
  | .ex x env' => ∀ Hs' σ' H' F' wf', Ex Hs Hs' → Rel cf R Hs' env' σ' H' F' wf' → W (cf.cv x) none σ' H'
  | _ => False
theorem PostO.mono {cf : Cf} {W : WX} {R : Rs} {i : Nat} {Hs Hs' : Hp} {D : Ends} (e : Ex Hs Hs') : ∀ {g : Res Fl}, PostO cf W R Hs i D g → PostO cf W R Hs' i D g
  | .ok (.rt d) _, h => fun v Hs2 σ' H' F' wf' e2 r o => h v Hs2 σ' H' F' wf' (e.trans e2) r o
  | .ex _ _, h => fun Hs2 σ' H' F' wf' e2 r => h Hs2 σ' H' F' wf' (e.trans e2) r
  | .ok .nx _, h => fun Hs2 σ' H' F' wf' e2 r => h Hs2 σ' H' F' wf' (e.trans e2) r
  | .ok .bk _, h => h.elim
  | .ok .ct _, h => h.elim
  | .stuck, h => h.elim
def sSeqO (a b : M Fl) : M Fl := bnd a fun f => match f with
  | .nx => b
  | _ => fail
def sRetO (i : Nat) : M Fl := fun e => match e[i]? with
  | some (some d) => .ok (.rt d) e
  | _ => .stuck
section
variable {X : Cx} {cf : Cf} {W : WX} {c : Cls} {n n1 n2 : Bool} {i j : Nat}
end
section
variable {P : Program} {w : World} {K : PySem.W.Frag} {mg : Str → Option Value} {base : Heap}
end
end MV
namespace MV
open PySem PySem.Spec PyProof.Rows L2
def PostB (cf : Cf) (W : WX) (R : Rs) (Hs : Hp) (j : Nat) (σ : L2.St) (p : Addr) (xs : List V) (F : Nat → List Addr) (wf : List Addr) (D : Ends) : Res Fl → Prop
  | .ok .nx env' => ∀ Hs' H', Ex Hs Hs' → Rel cf R Hs' env' σ H' F wf → H' p = some (.lst xs) → env'[j]? = some none → D.nx σ H'
  | .ok (.rt d) env' => ∀ v Hs' H', Ex Hs Hs' → Rel cf R Hs' env' σ H' F wf → Rp cf.K true (rs (rm H' wf) R.H0) v d → D.rt v H'
  | .ex x env' => ∀ Hs' H', Ex Hs Hs' → Rel cf R Hs' env' σ H' F wf → W (cf.cv x) none σ H'
  | _ => False
theorem PostB.mono {cf : Cf} {W : WX} {R : Rs} {Hs Hs' : Hp} {j : Nat} {σ : L2.St} {p : Addr} {xs : List V} {F : Nat → List Addr} {wf : List Addr} {D : Ends} (e : Ex Hs Hs') : ∀ {g : Res Fl}, PostB cf W R Hs j σ p xs F wf D g → PostB cf W R Hs' j σ p xs F wf D g
  | .ok .nx _, h => fun Hs2 H' e2 r => h Hs2 H' (e.trans e2) r
  | .ok (.rt d) _, h => fun v Hs2 H' e2 r => h v Hs2 H' (e.trans e2) r
  | .ex _ _, h => fun Hs2 H' e2 r => h Hs2 H' (e.trans e2) r
  | .ok .bk _, h => h.elim
  | .ok .ct _, h => h.elim
  | .stuck, h => h.elim
section
variable {cf : Cf} {R : Rs} {Hs H : Hp} {env : PEnv} {σ : L2.St} {F : Nat → List Addr} {wf : List Addr}
theorem Rel.drop (r : Rel cf R Hs env σ H F wf) {j : Nat} (hw : cf.kd j ≠ .W) : Rel cf R Hs (env.set j none) σ H F wf where
  len := by rw [List.length_set]; exact r.len
  exs := r.exs
  ex0 := r.ex0
  dom0 := r.dom0
  slot := fun i d h => by
    rcases get_set h with ⟨rfl, e, hl⟩ | ⟨ne, h⟩
    · cases e
    · exact r.slot i d h
  nod := r.nod
  dis := r.dis
  fdom := r.fdom
  uns := r.uns
  new := r.new
  volw := r.volw
  volb := r.volb
  wdom := r.wdom
  ior := fun p h => by
    obtain ⟨h1, h2, h3, d', h4⟩ := r.ior p h
    have ne : j ≠ 0 := fun e => by subst e; exact hw h3
    exact ⟨h1, h2, h3, d', by rw [List.getElem?_set_ne ne]; exact h4⟩
theorem Rel.any (r : Rel cf R Hs env σ H F wf) {j : Nat} {v : V} (hj : env[j]? = some none) (hw : cf.kd j ≠ .W) : Rel cf R Hs env (σ.set j (some v)) H F wf where
  len := by rw [List.length_set]; exact r.len
  exs := r.exs
  ex0 := r.ex0
  dom0 := r.dom0
  slot := fun i d h => by
    have ne : j ≠ i := fun e => by subst e; rw [hj] at h; cases h
    obtain ⟨w, h1, h2⟩ := r.slot i d h
    exact ⟨w, by rw [List.getElem?_set_ne ne]; exact h1, h2⟩
  nod := r.nod
  dis := r.dis
  fdom := r.fdom
  uns := r.uns
  new := r.new
  volw := r.volw
  volb := r.volb
  wdom := r.wdom
  ior := fun p h => by
    obtain ⟨h1, h2, h3, d', h4⟩ := r.ior p h
    have ne : j ≠ 0 := fun e => by subst e; exact hw h3
    exact ⟨by rw [List.getElem?_set_ne ne]; exact h1, h2, h3, d', h4⟩
end
section
variable {X : Cx} {cf : Cf} {W : WX} {c : Cls} {n n1 n2 : Bool} {i j : Nat}
end
end MV
namespace Ov
open PySem MV
end Ov
namespace Ov
open PySem (Str PyData)
open MV
theorem dN_snoc (l : List Nat) (x : Nat) : D.lst ((l.map fun k : Nat => D.int (k : Int)) ++ [.int (x : Int)]) = dN (l ++ [x]) := by
  show _ = D.lst _
  rw [List.map_append]; rfl
def endsC (t : List Str) (s : Nat) : List Nat := wlk s 0 (lies t (t.take s))
def cvl (t : List Str) (s e : Nat) : List Nat := ((List.range s).filter fun k => decide (e ∈ endsC t (k + 1))).map (· + 1)
theorem cvl_succ (t : List Str) (s e : Nat) : cvl t (s + 1) e = cvl t s e ++ if e ∈ endsC t (s + 1) then [s + 1] else [] := by
  unfold cvl
  rw [List.range_succ, List.filter_append, List.map_append]
  congr 1
  by_cases h : e ∈ endsC t (s + 1) <;> simp [h]
theorem mem_endsC {t : List Str} {s e : Nat} (h1 : 1 ≤ s) (hs : s ≤ t.length) : e ∈ endsC t s ↔ Cvr t s e := mem_ends h1 hs
theorem cvl_ge {t : List Str} {e : Nat} : ∀ (m : Nat), e + m ≤ t.length → cvl t (e + m) e = cvl t e e
  | 0, _ => rfl
  | m + 1, h => by
    rw [show e + (m + 1) = (e + m) + 1 by omega, cvl_succ, cvl_ge m (by omega), if_neg, List.append_nil]
    intro q
    have := (mem_endsC (by omega) (by omega)).mp q
    have := this.2.1
    omega
theorem cvl_own {t : List Str} {e : Nat} (h1 : 1 ≤ e) (h2 : e ≤ t.length) : cvl t t.length e = cvl t (e - 1) e ++ [e] := by
  have a := cvl_ge (t := t) (e := e) (t.length - e) (by omega)
  rw [show e + (t.length - e) = t.length by omega] at a
  rw [a]
  conv => lhs; rw [show e = (e - 1) + 1 by omega]
  rw [cvl_succ, show e - 1 + 1 = e by omega, if_pos ((mem_endsC h1 h2).mpr (Cvr.self h1 h2))]
theorem mem_cvl {t : List Str} {s e k : Nat} (hs : s ≤ t.length) : k ∈ cvl t s e ↔ 1 ≤ k ∧ k ≤ s ∧ Cvr t k e := by
  unfold cvl
  rw [List.mem_map]
  constructor
  · rintro ⟨j, hj, rfl⟩
    obtain ⟨a, b⟩ := List.mem_filter.mp hj
    have := List.mem_range.mp a
    exact ⟨by omega, by omega, (mem_endsC (by omega) (by omega)).mp (of_decide_eq_true b)⟩
  · rintro ⟨a, b, c⟩
    refine ⟨k - 1, List.mem_filter.mpr ⟨List.mem_range.mpr (by omega), ?_⟩, by omega⟩
    rw [show k - 1 + 1 = k by omega]
    exact decide_eq_true ((mem_endsC a (by omega)).mpr c)
theorem cvl_srt (t : List Str) (s e : Nat) : (cvl t s e).Pairwise (· < ·) := by
  unfold cvl
  refine List.pairwise_map.mpr ((List.Pairwise.filter _ List.pairwise_lt_range).imp fun h => by omega)
theorem cvl_gc {t : List Str} {e g : Nat} (h1 : 1 ≤ e) (h2 : e ≤ t.length) (hg : isGC t e g) : (g = 0 → cvl t (e - 1) e = []) ∧ (g ≠ 0 → cvl t (e - 1) e = cvl t t.length g) := by
  constructor
  · intro z
    subst z
    rw [List.eq_nil_iff_forall_not_mem]
    intro k hk
    obtain ⟨a, b, c⟩ := (mem_cvl (by omega)).mp hk
    have := hg.2 k (by omega) c
    omega
  · intro z
    obtain ⟨gl, gc⟩ := hg.1.resolve_left z
    have e1 : cvl t (e - 1) e = cvl t (e - 1) g := by
      unfold cvl
      congr 1
      refine List.filter_congr fun k hk => decide_eq_decide.mpr ?_
      have := List.mem_range.mp hk
      rw [mem_endsC (by omega) (by omega), mem_endsC (by omega) (by omega)]
      exact ⟨fun h => h.down gc (hg.2 _ (by omega) h), fun h => h.trans gc⟩
    have e2 := cvl_ge (t := t) (e := g) (e - 1 - g) (by omega)
    have e3 := cvl_ge (t := t) (e := g) (t.length - g) (by omega)
    rw [show g + (e - 1 - g) = e - 1 by omega] at e2
    rw [show g + (t.length - g) = t.length by omega] at e3
    rw [e1, e2, e3]
end Ov
namespace MV
def soK (b : M Fl) : Fl → PEnv → Res Fl
  | .nx, e => b e
  | _, _ => .stuck
@[simp] theorem soK_nx {b : M Fl} {e : PEnv} : soK b .nx e = b e := (rfl)
@[simp] theorem r_sSeqO {a b : M Fl} {e : PEnv} : sSeqO a b e = rb (a e) (soK b) := by
  show rb (a e) _ = _
  congr 1; funext f e; cases f <;> rfl
@[simp] theorem r_sRetO {i : Nat} {e : PEnv} : sRetO i e = ro (someO (e[i]?)) fun d => .ok (.rt d) e := by
  unfold sRetO
  cases e[i]? with
  | none => rfl
  | some o => cases o <;> rfl
@[simp] theorem gList1_t {ds : List D} : gList1 [.tup ds] = some (.lst ds) := (rfl)
end MV
namespace Ov
open PySem (Str PyData)
open MV
theorem many_eq {t : List Str} {G L : List Nat} (G2 : PL (isGC t) G t.length) (L2 : L.length = t.length) (L3 : ∀ i g, G[i]? = some g → L[i]? = some (hmS (L.take i) g)) : L = (List.range t.length).map fun m => (cvl t t.length (m + 1)).length := by
  have key : ∀ n i, i < n → i < t.length → L[i]? = some (cvl t t.length (i + 1)).length := by
    intro n
    induction n with
    | zero => intro i h; omega
    | succ n ih =>
      intro i _ hi
      obtain ⟨g, g1, g2⟩ := G2.2 i hi
      rw [L3 i g g1]
      congr 1
      obtain ⟨c0, c1⟩ := cvl_gc (t := t) (e := i + 1) (by omega) (by omega) g2
      rw [cvl_own (t := t) (e := i + 1) (by omega) (by omega), List.length_append]
      unfold hmS
      by_cases z : g = 0
      · rw [if_pos z, c0 z]; rfl
      · obtain ⟨gl, gc⟩ := g2.1.resolve_left z
        have gp := gc.1
        rw [if_neg z, c1 z, List.getD_eq_getElem?_getD, List.getElem?_take, if_pos (by omega), ih (g - 1) (by omega) (by omega), show g - 1 + 1 = g by omega]
        simp; omega
  apply List.ext_getElem?
  intro i
  by_cases c : i < t.length
  · rw [key (i + 1) i (by omega) c, List.getElem?_map, List.getElem?_range c]; rfl
  · rw [List.getElem?_eq_none (by omega), List.getElem?_eq_none (by rw [List.length_map, List.length_range]; omega)]
end Ov
namespace Ov
open PySem (Str PyData)
open MV
end Ov
namespace Ov
open PySem (Str)
open MV
def ov (w : Nat) (L : List Nat) (i : Nat) : Bool := L.any fun p => decide (p ≤ i) && decide (i < p + w)
end Ov
namespace Ov
open PySem (Str PyData)
open MV
end Ov
namespace Ov
open PySem (Str)
open MV
def lay (t w : List Str) (P : List Int) : Bool := decide (P.Pairwise (· < ·)) && ((P.all fun p => (lies t w).any fun k => decide ((k : Int) = p)) && decide (reach w.length 0 (P.map Int.toNat) = t.length))
theorem inD_n (p : Int) (L : List Nat) : inD (.int p) (L.map fun k : Nat => D.int (k : Int)) = L.any fun k => decide ((k : Int) = p) := by
  induction L with
  | nil => rfl
  | cons a r ih =>
    show (eqD (.int (a : Int)) (.int p) || inD (.int p) (r.map fun k : Nat => D.int (k : Int))) = _
    rw [ih, List.any_cons]; rfl
theorem gNotIn_n (p : Int) (L : List Nat) : gNotIn (.int p) (dN L) = some (.bl (!(L.any fun k => decide ((k : Int) = p)))) := by
  have h : (L.map fun k : Nat => D.int (k : Int)).all D.sc = true := by rw [List.all_map, List.all_eq_true]; intro x _; rfl
  show (if (D.int p).sc && (L.map fun k : Nat => D.int (k : Int)).all D.sc then some (inD (.int p) (L.map fun k : Nat => D.int (k : Int))) else none).map (fun k => D.bl (!k)) = _
  rw [h, inD_n]; rfl
theorem lay_nat {t w : List Str} {P : List Int} (h : (P.all fun p => (lies t w).any fun k => decide ((k : Int) = p)) = true) : P = (P.map Int.toNat).map (fun k : Nat => (k : Int)) ∧ ∀ p ∈ P.map Int.toNat, p ∈ lies t w := by
  have h' : ∀ p ∈ P, ∃ k ∈ lies t w, (k : Int) = p := fun p hp => by
    have := List.all_eq_true.mp h p hp
    obtain ⟨k, k1, k2⟩ := List.any_eq_true.mp this
    exact ⟨k, k1, of_decide_eq_true k2⟩
  constructor
  · rw [List.map_map]
    have : P.map ((fun k : Nat => (k : Int)) ∘ Int.toNat) = P.map id := List.map_congr_left fun p hp => by
      obtain ⟨k, _, e⟩ := h' p hp
      show ((p.toNat : Nat) : Int) = p
      omega
    rw [this, List.map_id]
  · intro p hp
    obtain ⟨q, q1, rfl⟩ := List.mem_map.mp hp
    obtain ⟨k, k1, e⟩ := h' q q1
    rw [← e]; exact k1
theorem srt_nat {P : List Int} (hP : P = (P.map Int.toNat).map (fun k : Nat => (k : Int))) (h : P.Pairwise (· < ·)) : Srt (P.map Int.toNat) := by
  rw [hP] at h
  have := List.pairwise_map.mp h
  exact this.imp fun h => by omega
theorem lc_out (i4 : Nat) {t w : List Str} {P : List Int} (hl : P.length ≤ 2000) {e : PEnv} (n5 : e.length = i4 + 1) (ew : (e.set i4 none) = e) (f3 : ∀ d, (e.set i4 d)[3]? = some (some (dN (lies t w)))) (hi : i4 < e.length) :
    lcGo [i4] (tgN i4) (tB (e2 gNotIn (eV i4) (eV 3))) (eV i4) (P.map D.int) [] e = .ok ((P.filter fun p => !((lies t w).any fun k => decide ((k : Int) = p))).map D.int) e := by
  have := lc_pure (is := [i4]) (tg := tgN i4) (t := tB (e2 gNotIn (eV i4) (eV 3))) (fe := eV i4) (e := e) (φ := D.int) (p := fun p => !((lies t w).any fun k => decide ((k : Int) = p))) (g := D.int) P [] (by simpa using Nat.le_trans hl (by decide))
    (fun p hp => ⟨e.set i4 (some (.int p)), e.set i4 (some (.int p)), rfl, by simp [List.getElem?_set_self hi, f3, gNotIn_n], fun _ => ⟨e.set i4 (some (.int p)), by simp [List.getElem?_set_self hi], by show (e.set i4 (some (.int p))).set i4 none = e; rw [List.set_set]; exact ew⟩, fun _ => by show (e.set i4 (some (.int p))).set i4 none = e; rw [List.set_set]; exact ew⟩)
  simpa using this
theorem filt_all {t w : List Str} {P : List Int} : (P.filter fun p => !((lies t w).any fun k => decide ((k : Int) = p))) = [] ↔ (P.all fun p => (lies t w).any fun k => decide ((k : Int) = p)) = true := by
  rw [List.filter_eq_nil_iff, List.all_eq_true]
  constructor
  · intro h p hp
    have := h p hp
    cases q : (lies t w).any fun k => decide ((k : Int) = p) with
    | true => rfl
    | false => rw [q] at this; exact absurd rfl this
  · intro h p hp
    rw [h p hp]; decide
theorem reach_cap {t w : List Str} {L : List Nat} (h : ∀ p ∈ L, p ∈ lies t w) : reach w.length 0 L ≤ t.length := by
  rcases reach_mem w.length L 0 with e | ⟨p, hp, e⟩
  · omega
  · rw [e]; exact lies_lt (h p hp)
theorem is_laying_val {t w : List Str} {P : List Int} (ht : Tx t) (hw : Tx w) (ht0 : t ≠ []) (h0 : w ≠ []) (hl : t.length ≤ 800) (hl2 : w.length ≤ 800) (hP : P.length ≤ 2000) : F_is_laying [dT t, dT w, dI P] = .ok (.bl (lay t w P)) (dT t) := by
  have nb := need_both_val ht hw ht0 h0 (by omega) (by omega)
  have g1 := gNe_dI P (dsI P)
  have hP4 : P.length ≤ 4000 := by omega
  have fl := flat_dI (dsI P)
  simp only [F_is_laying, r_runF, B_is_laying]
  unfold lay
  by_cases a1 : P.Pairwise (· < ·)
  · rw [decide_eq_true (dsI_of a1).symm] at g1
    have c2 := lc_out 4 (t := t) (w := w) hP (e := [some (dT t), some (dT w), some (dI P), some (dN (lies t w)), none]) rfl rfl (fun d => rfl) (by simp)
    have fa := filt_all (t := t) (w := w) (P := P)
    have g2 : gNe (dI (P.filter fun p => !((lies t w).any fun k => decide ((k : Int) = p)))) (.lst []) = _ := gNe_dI (P.filter fun p => !((lies t w).any fun k => decide ((k : Int) = p))) []
    generalize (P.filter fun p => !((lies t w).any fun k => decide ((k : Int) = p))) = PL at c2 g2 fa
    have lv := lies_at_val ht hw h0 (by omega) (by omega)
    by_cases a2 : (P.all fun p => (lies t w).any fun k => decide ((k : Int) = p)) = true
    · rw [decide_eq_true (fa.mpr a2)] at g2
      obtain ⟨b1, b2⟩ := lay_nat a2
      have cap := reach_cap b2
      have bv := first_bare_val (w := w.length) (n := t.length) (L := P.map Int.toNat) (srt_nat b1 a1)
      have bv' : F_first_bare [.int (w.length : Int), dI P, .int (t.length : Int)] = .ok (if reach w.length 0 (P.map Int.toNat) < t.length then .int (reach w.length 0 (P.map Int.toNat) : Nat) else .non) (.int w.length) := by
        rw [← bv, dN_dI, ← b1]
      rw [decide_eq_true a1, a2]
      by_cases a3 : reach w.length 0 (P.map Int.toNat) = t.length
      · rw [if_neg (by omega)] at bv'
        rw [decide_eq_true a3]
        simp [nb, asInts_map, hP4, fl, g1, lv, c2, g2, bv', isN_non]
      · rw [if_pos (by omega)] at bv'
        rw [decide_eq_false a3]
        simp [nb, asInts_map, hP4, fl, g1, lv, c2, g2, bv', isN_int]
    · rw [decide_eq_false (fun z => a2 (fa.mp z))] at g2
      rw [Bool.not_eq_true] at a2
      rw [decide_eq_true a1, a2]
      simp [nb, asInts_map, hP4, fl, g1, lv, c2, g2]
  · rw [decide_eq_false (fun z => a1 (by rw [z]; exact lt_dsI P))] at g1
    rw [decide_eq_false a1]
    simp [nb, asInts_map, hP4, fl, g1]
section
variable {f g : M D} {lo hi : M (Option Int)} {e : PEnv} {n m : Nat}
end
def Rows (rows : List (List Int)) (k : Nat) : Prop := rows.length = k ∧ ∀ r ∈ rows, r.length ≤ 2000
theorem Rows.snoc {rows : List (List Int)} {k : Nat} (h : Rows rows k) {r : List Int} (hr : r.length ≤ 2000) : Rows (rows ++ [r]) (k + 1) := by
  refine ⟨by rw [List.length_append, h.1]; rfl, fun x hx => ?_⟩
  rcases List.mem_append.mp hx with hx | hx
  · exact h.2 x hx
  · rw [List.mem_singleton.mp hx]; exact hr
end Ov
namespace Ov
open PySem (Str PyData)
open MV
def kvsF (n : Nat) : List Str → List (L2.Key × D)
  | [] => []
  | x :: r => (Sum.inl (n : Int), .str x) :: kvsF (n + 1) r
abbrev dS (s : List Str) : D := .dic (kvsF 0 s)
def ovl (s : List Str) (p : Nat) (w : List Str) : List Str := s.take p ++ w ++ s.drop (p + w.length)
def shw (w : List Str) (ch : List Nat) : List Str := ch.foldl (fun s p => ovl s p w) []
def Rising (m : Nat) : Nat → List Nat → Prop
  | _, [] => True
  | L, p :: r => p ≤ L ∧ Rising m (max L (p + m)) r
theorem Rising.snoc {m : Nat} : ∀ {ch : List Nat} {L p : Nat}, Rising m L (ch ++ [p]) → Rising m L ch ∧ p ≤ ch.foldl (fun L p => max L (p + m)) L
  | [], L, p, h => ⟨trivial, h.1⟩
  | q :: r, L, p, h => by
    have h : q ≤ L ∧ Rising m (max L (q + m)) (r ++ [p]) := h
    obtain ⟨h1, h2⟩ := Rising.snoc h.2
    exact ⟨⟨h.1, h1⟩, h2⟩
theorem Rising.take {m : Nat} : ∀ {ch : List Nat} {L : Nat} (n : Nat), Rising m L ch → Rising m L (ch.take n)
  | _, _, 0, _ => trivial
  | [], _, n + 1, _ => trivial
  | p :: r, L, n + 1, h => ⟨h.1, Rising.take n h.2⟩
end Ov
namespace Ov
open PySem (Str PyData)
open MV
def mism (a b : List Str) : Nat := ((a.zip b).filter fun p => !decide (p.1 = p.2)).length
theorem mism_nil (b : List Str) : mism [] b = 0 := rfl
theorem mism_cons (x y : Str) (a b : List Str) : mism (x :: a) (y :: b) = (if x = y then 0 else 1) + mism a b := by
  unfold mism
  rw [List.zip_cons_cons, List.filter_cons]
  by_cases h : x = y
  · simp [h]
  · simp [h]; omega
def wrV (t w : List Str) (p s : Nat) : Nat := mism (t.drop (p + s)) (w.drop s)
def Stp' (w : List Str) : Nat → List Nat → Prop
  | _, [] => True
  | a, b :: r => (∃ d ∈ wayson w, b = a + d) ∧ Stp' w b r
def lastN (a : Nat) : List Nat → Nat
  | [] => a
  | b :: r => lastN b r
theorem wayson_shift {w : List Str} {d : Nat} (h : d ∈ wayson w) : w.drop d = w.take (w.length - d) := by
  unfold wayson at h
  simpa using (List.mem_filter.mp h).2
theorem ovl_next {S w : List Str} {a d : Nat} (hS : S.length = a + w.length) (hd : S.drop a = w) (h : d ∈ wayson w) : ovl S (a + d) w = S ++ w.drop (w.length - d) ∧ (ovl S (a + d) w).drop (a + d) = w ∧ (ovl S (a + d) w).length = a + d + w.length := by
  obtain ⟨h1, h2⟩ := wayson_le h
  have e0 : S.drop (a + d + w.length) = [] := List.drop_eq_nil_of_le (by omega)
  have e1 : S.drop (a + d) = w.take (w.length - d) := by rw [← List.drop_drop, hd, wayson_shift h]
  have e2 : ovl S (a + d) w = S.take (a + d) ++ w := by unfold ovl; rw [e0, List.append_nil]
  refine ⟨?_, ?_, ?_⟩
  · rw [e2]
    conv => rhs; rw [← List.take_append_drop (a + d) S, e1, List.append_assoc, List.take_append_drop]
  · rw [e2, List.drop_append_of_le_length (by rw [List.length_take]; omega), List.drop_eq_nil_of_le (by rw [List.length_take]; omega), List.nil_append]
  · rw [e2, List.length_append, List.length_take]; omega
def costS (t w : List Str) : Nat → List Nat → Nat
  | _, [] => 0
  | a, b :: r => wrV t w b (w.length + a - b) + costS t w b r
theorem shw_zero {w : List Str} (r : List Nat) : shw w (0 :: r) = r.foldl (fun s p => ovl s p w) w := by
  unfold shw
  rw [List.foldl_cons]
  congr 1
  unfold ovl
  simp
def stepsI (ch : List Int) : List (Int × Int) := ch.zip (ch.drop 1)
def inW (w : List Str) (d : Int) : Bool := (wayson w).any fun k => decide ((k : Int) = d)
def offS (w : List Str) (ch : List Int) : List (Int × Int) := (stepsI ch).filter fun p => !inW w (p.2 - p.1)
end Ov
namespace Ov
open PySem (Str PyData)
open MV
def okC (t w : List Str) (ch : List Int) : Prop := ch.head? = some 0 ∧ ch.getLast? = some ((t.length : Int) - (w.length : Int)) ∧ offS w ch = []
instance (t w : List Str) (ch : List Int) : Decidable (okC t w ch) := by unfold okC; exact inferInstance
theorem ones (l : List (Int × Int)) : gNe (.lst (l.map fun _ => D.int 1)) (.lst []) = some (.bl (!decide (l = []))) := by
  have := gNe_dI (l.map fun _ => (1 : Int)) []
  rw [show dI (l.map fun _ => (1 : Int)) = .lst (l.map fun _ => D.int 1) from by show D.lst _ = D.lst _; rw [List.map_map]; rfl] at this
  rw [show dI [] = .lst [] from rfl] at this
  rw [this]
  simp
end Ov
namespace Ov
open PySem (Str PyData)
open MV
theorem asInts_map (l : List Int) : asInts (l.map D.int) = some l := by
  induction l with
  | nil => rfl
  | cons a r ih => rw [List.map_cons, asInts, ih]; rfl
end Ov
namespace Ov
open PySem (Str PyData)
open MV
end Ov
namespace Ov
open PySem (Str PyData)
open MV
theorem dN_I (r : List Nat) : dN r = dI (r.map fun k : Nat => (k : Int)) := by show D.lst _ = D.lst _; rw [List.map_map]; rfl
end Ov
namespace Ov
open PySem (Str PyData)
open MV
def pm (t w : List Str) (p k : Nat) : Nat := mism (t.drop p) (w.take k)
end Ov
namespace Ov
open PySem (Str PyData)
open MV
abbrev T3 := Nat × Nat × Nat
abbrev dB3 (x : T3) : D := .tup [.int (x.1 : Int), .int (x.2.1 : Int), .int (x.2.2 : Int)]
def mn3 : List T3 → Option T3
  | [] => none
  | x :: xs => some (xs.foldl (fun a y => if ltD (dB3 y) (dB3 a) then y else a) x)
def way (t w : List Str) (E p : Nat) (L : List (Option T3)) (far : Nat) : Option T3 :=
  if p + far ≤ E then (match L[far - 1]? with
    | some (some x) => some (x.1 + wrV t w (p + far) (w.length - far), x.2.1 + 1, p + far)
    | _ => none) else none
def BT (t w : List Str) (E : Nat) : Nat → List (Option T3)
  | 0 => [some (0, 0, E)]
  | k + 1 => mn3 ((wayson w).filterMap (way t w E (E - k - 1) (BT t w E k))) :: BT t w E k
section
variable {t w : List Str}
end
end Ov
namespace Ov
open PySem (Str PyData)
open MV
section
variable {t w : List Str}
def bst (t w : List Str) (E p : Nat) : Option T3 := ((BT t w E (E - p)).head?).getD none
def ways (t w : List Str) (E p : Nat) : List T3 := (wayson w).filterMap fun far => if p + far ≤ E then (bst t w E (p + far)).map fun x => (x.1 + wrV t w (p + far) (w.length - far), x.2.1 + 1, p + far) else none
end
end Ov
namespace Ov
open PySem (Str PyData)
open MV
def bls (f : Bool → Bool) (R : List Bool) : List D := R.map fun b => D.bl (f b)
@[simp] theorem bls_len (f : Bool → Bool) (R : List Bool) : (bls f R).length = R.length := by unfold bls; simp
end Ov
namespace Ov
open PySem (Str PyData)
open MV
end Ov
namespace Ov
open PySem (Str PyData)
open MV
end Ov
namespace Ov
open PySem (Str PyData)
open MV
def c4 : List Str := [Str.ofString "NoWord", Str.ofString "NoSign", Str.ofString "NoText", Str.ofString "TooMany"]
end Ov
namespace Ov
open PySem (Str PyData)
open MV
abbrev marksS : Str := Str.ofString " !\"#$&'()*+,-./0123456789:;<=>?@ABCDEFGHIJKLMNOPQRSTUVWXYZ[\\]^_`{|}~\n"
def oddL : List Str := [Str.ofString "", Str.ofString "ab", Str.ofString "aa", Str.ofString "Aa"] ++ marksS.cps.toList.map fun c => ⟨#[c]⟩
theorem oddL_all : oddL.all (fun x => PyData.strOk x && decide (x.length ≤ 100) && !isSg x) = true := by decide +kernel
theorem oddL_mem {x : Str} (h : x ∈ oddL) : okS x ∧ x.length ≤ 100 ∧ isSg x = false := by
  have := List.all_eq_true.mp oddL_all x h
  simp only [Bool.and_eq_true, decide_eq_true_iff, Bool.not_eq_true'] at this
  exact ⟨this.1.1, this.1.2, this.2⟩
def Wd (t : List Str) : Prop := ∀ x ∈ t, Sg x ∨ x ∈ oddL
theorem Wd.gd {t : List Str} (h : Wd t) : Gd t := fun x hx => by
  rcases h x hx with q | q
  · exact Tx.gd (t := [x]) (fun y hy => by rw [List.mem_singleton.mp hy]; exact q) x List.mem_cons_self
  · exact ⟨(oddL_mem q).1, (oddL_mem q).2.1⟩
theorem Wd.set {t : List Str} (h : Wd t) {x : Str} (hx : x ∈ oddL) (k : Nat) : Wd (t.set k x) := fun y hy => by
  rcases List.mem_or_eq_of_mem_set hy with hy | hy
  · exact h y hy
  · rw [hy]; exact .inr hx
end Ov
namespace Ov
open PySem (Str PyData)
open MV
section
variable {t w : List Str}
end
end Ov
namespace Ov
open PySem (Str PyData)
open MV
section
variable {t w : List Str}
def roomR (t w : List Str) : Option Nat := if w = [] then some 0 else if w.filter (fun x => !isSg x) = [] then (if t.filter (fun x => !isSg x) = [] then (if t.length < w.length then some 2 else none) else some 1) else some 1
noncomputable def ref1 (t w : List Str) (ch : List Int) : Option Nat := match roomR t w with
  | some c => some c
  | none => if okC t w ch then none else some 3
end
end Ov
namespace Ov
open PySem (Str PyData)
open MV
section
variable {α : Type}
def mnK (key : α → List Int) : List α → Option α
  | [] => none
  | x :: xs => some (xs.foldl (fun a y => if key y < key a then y else a) x)
end
section
variable {t w : List Str}
end
end Ov
namespace Ov
open PySem (Str PyData)
open MV
abbrev T3L := Nat × Nat × List Nat
def kF (x : T3L) : List Int := (x.1 : Int) :: (x.2.1 : Int) :: x.2.2.map fun k : Nat => (k : Int)
section
variable {t w : List Str} {wh : Bool}
def extF (t w : List Str) (wh : Bool) (p far : Nat) (x : T3L) : T3L := (x.1 + wrV t w p (w.length - far), x.2.1 + 1, if wh then x.2.2 ++ [p] else x.2.2)
def stepF (t w : List Str) (wh : Bool) (p : Nat) (L : List (Option T3L)) (far : Nat) : Option T3L :=
  if far ≤ p then ((L[p - far]?).getD none).map (extF t w wh p far) else none
def FT (t w : List Str) (wh : Bool) : Nat → List (Option T3L)
  | 0 => [some (wrV t w 0 0, 1, [0])]
  | k + 1 => FT t w wh k ++ [mnK kF ((wayson w).filterMap (stepF t w wh (k + 1) (FT t w wh k)))]
def fw (t w : List Str) (wh : Bool) (p : Nat) : Option T3L := ((FT t w wh p)[p]?).getD none
def kx (t w : List Str) (wh : Bool) (c : List Nat) : T3L := (wrV t w 0 0 + costS t w 0 c, c.length + 1, if wh then 0 :: c else [0])
end
end Ov
namespace Ov
open PySem (Str PyData)
open MV
section
variable {t w : List Str} {wh : Bool}
end
end Ov
namespace Ov
open PySem (Str PyData)
open MV
section
variable {t w : List Str} {wh : Bool}
end
end Ov
namespace Ov
open PySem (Str PyData)
open MV
end Ov
namespace Ov
open PySem (Str PyData)
open MV
theorem mism_set (x : Str) : ∀ (t b : List Str) (i : Nat), mism (t.set i x) b ≤ mism t b + 1 ∧ mism t b ≤ mism (t.set i x) b + 1
  | [], b, i => by simp [mism_nil]
  | a :: t, [], i => by simp [mism]
  | a :: t, y :: b, 0 => by
    rw [List.set_cons_zero, mism_cons, mism_cons]
    constructor <;> split <;> split <;> omega
  | a :: t, y :: b, i + 1 => by
    rw [List.set_cons_succ, mism_cons, mism_cons]
    have := mism_set x t b i
    omega
theorem mism_le : ∀ (t b : List Str), mism t b ≤ t.length
  | [], b => by simp [mism_nil]
  | a :: t, [] => by simp [mism]
  | a :: t, y :: b => by
    rw [mism_cons]
    have := mism_le t b
    simp only [List.length_cons]
    split <;> omega
theorem mism_rev : ∀ (t b : List Str), t.length = b.length → mism t.reverse b.reverse = mism t b
  | [], [], _ => rfl
  | [], y :: b, h => by simp at h
  | a :: t, [], h => by simp at h
  | a :: t, y :: b, h => by
    have h' : t.length = b.length := by simpa using h
    have ih := mism_rev t b h'
    have e : mism (t.reverse ++ [a]) (b.reverse ++ [y]) = mism t.reverse b.reverse + mism [a] [y] := by
      unfold mism
      rw [List.zip_append (by simpa using h'), List.filter_append, List.length_append]
    rw [List.reverse_cons, List.reverse_cons, e, mism_cons, mism_cons, ih, mism_nil]
    omega
def Least (t w : List Str) (n : Nat) : Prop := (∃ c, Stp' w 0 c ∧ lastN 0 c + w.length = t.length ∧ mism t (shw w (0 :: c)) = n) ∧ ∀ c, Stp' w 0 c → lastN 0 c + w.length = t.length → n ≤ mism t (shw w (0 :: c))
theorem Least.set {t w : List Str} {m n i : Nat} {x : Str} (h : Least t w m) (g : Least (t.set i x) w n) : n ≤ m + 1 ∧ m ≤ n + 1 := by
  obtain ⟨⟨c, a1, a2, a3⟩, a4⟩ := h
  obtain ⟨⟨d, b1, b2, b3⟩, b4⟩ := g
  have e1 := a4 d b1 (by simpa using b2)
  have e2 := b4 c a1 (by simpa using a2)
  have e3 := mism_set x t (shw w (0 :: c)) i
  have e4 := mism_set x t (shw w (0 :: d)) i
  omega
end Ov
namespace Ov
open PySem (Str PyData)
open MV
def plcs (a : Nat) : List Nat → List Nat
  | [] => []
  | d :: ds => (a + d) :: plcs (a + d) ds
def bld (w : List Str) : List Nat → List Str
  | [] => w
  | d :: ds => w.take d ++ bld w ds
theorem stp_plcs {w : List Str} : ∀ {r : List Nat} {a : Nat}, Stp' w a r → ∃ ds, (∀ d ∈ ds, d ∈ wayson w) ∧ r = plcs a ds
  | [], a, _ => ⟨[], by simp, rfl⟩
  | b :: r, a, h => by
    obtain ⟨⟨d, hd, rfl⟩, h2⟩ := h
    obtain ⟨ds, g1, rfl⟩ := stp_plcs h2
    exact ⟨d :: ds, by intro x hx; rcases List.mem_cons.mp hx with rfl | hx; exact hd; exact g1 x hx, rfl⟩
theorem plcs_stp {w : List Str} : ∀ {ds : List Nat} {a : Nat}, (∀ d ∈ ds, d ∈ wayson w) → Stp' w a (plcs a ds)
  | [], a, _ => trivial
  | d :: ds, a, h => ⟨⟨d, h d (by simp), rfl⟩, plcs_stp fun x hx => h x (by simp [hx])⟩
theorem plcs_last : ∀ (ds : List Nat) (a : Nat), lastN a (plcs a ds) = a + ds.sum
  | [], a => rfl
  | d :: ds, a => by
    show lastN (a + d) (plcs (a + d) ds) = _
    rw [plcs_last ds (a + d), List.sum_cons]; omega
theorem bld_go {w : List Str} : ∀ (ds : List Nat) (a : Nat) (S : List Str), S.length = a + w.length → S.drop a = w → (∀ d ∈ ds, d ∈ wayson w) →
    (plcs a ds).foldl (fun s p => ovl s p w) S = S.take a ++ bld w ds
  | [], a, S, hS, hd, _ => by
    show S = S.take a ++ w
    rw [← hd, List.take_append_drop]
  | d :: ds, a, S, hS, hd, h => by
    obtain ⟨e1, e2, e3⟩ := ovl_next hS hd (h d (by simp))
    obtain ⟨d1, d2⟩ := wayson_le (h d (by simp))
    show (plcs (a + d) ds).foldl (fun s p => ovl s p w) (ovl S (a + d) w) = S.take a ++ (w.take d ++ bld w ds)
    rw [bld_go ds (a + d) _ e3 e2 fun x hx => h x (by simp [hx]), e1, List.take_append_of_le_length (by omega), List.take_add, hd, List.append_assoc]
theorem shw_bld {w : List Str} {ds : List Nat} (h : ∀ d ∈ ds, d ∈ wayson w) : shw w (0 :: plcs 0 ds) = bld w ds := by
  rw [shw_zero, bld_go (w := w) ds 0 w (by omega) rfl h]; simp
theorem bld_snoc {w : List Str} : ∀ {ds : List Nat} {d : Nat}, d ∈ wayson w → bld w (ds ++ [d]) = bld w ds ++ w.drop (w.length - d)
  | [], d, h => by
    show w.take d ++ w = w ++ w.drop (w.length - d)
    have := wayson_shift h
    calc w.take d ++ w = w.take d ++ (w.take (w.length - d) ++ w.drop (w.length - d)) := by rw [List.take_append_drop]
      _ = _ := by rw [← this, ← List.append_assoc, List.take_append_drop]
  | e :: ds, d, h => by
    show w.take e ++ bld w (ds ++ [d]) = w.take e ++ bld w ds ++ _
    rw [bld_snoc h, List.append_assoc]
theorem wayson_rev {w : List Str} {d : Nat} (h : d ∈ wayson w) : d ∈ wayson w.reverse := by
  have s := wayson_shift h
  unfold wayson at h ⊢
  rw [List.mem_filter] at h ⊢
  refine ⟨by simpa using h.1, ?_⟩
  have hd := List.mem_range'_1.mp h.1
  rw [decide_eq_true_eq, List.length_reverse, List.drop_reverse, List.take_reverse, ← s]
  congr 2
  omega
theorem bld_rev {w : List Str} : ∀ {ds : List Nat}, (∀ d ∈ ds, d ∈ wayson w) → (bld w ds).reverse = bld w.reverse ds.reverse
  | [], _ => rfl
  | d :: ds, h => by
    have hd := h d (by simp)
    obtain ⟨d1, d2⟩ := wayson_le hd
    show (w.take d ++ bld w ds).reverse = _
    rw [List.reverse_append, List.reverse_cons, bld_snoc (wayson_rev hd), bld_rev fun x hx => h x (by simp [hx]), List.length_reverse, List.drop_reverse]
    congr 3
    omega
theorem bld_len {w : List Str} : ∀ {ds : List Nat}, (∀ d ∈ ds, d ∈ wayson w) → (bld w ds).length = ds.sum + w.length
  | [], _ => by show w.length = _; simp
  | d :: ds, h => by
    obtain ⟨d1, d2⟩ := wayson_le (h d (by simp))
    show (w.take d ++ bld w ds).length = _
    rw [List.length_append, List.length_take, bld_len fun x hx => h x (by simp [hx]), List.sum_cons]; omega
theorem least_iff {t w : List Str} {n : Nat} : Least t w n ↔ (∃ ds, (∀ d ∈ ds, d ∈ wayson w) ∧ ds.sum + w.length = t.length ∧ mism t (bld w ds) = n) ∧ ∀ ds, (∀ d ∈ ds, d ∈ wayson w) → ds.sum + w.length = t.length → n ≤ mism t (bld w ds) := by
  constructor
  · rintro ⟨⟨c, a1, a2, a3⟩, a4⟩
    obtain ⟨ds, g1, rfl⟩ := stp_plcs a1
    rw [plcs_last] at a2
    refine ⟨⟨ds, g1, by omega, by rw [← shw_bld g1]; exact a3⟩, fun es h1 h2 => ?_⟩
    rw [← shw_bld h1]
    exact a4 _ (plcs_stp h1) (by rw [plcs_last]; omega)
  · rintro ⟨⟨ds, a1, a2, a3⟩, a4⟩
    refine ⟨⟨plcs 0 ds, plcs_stp a1, by rw [plcs_last]; omega, by rw [shw_bld a1]; exact a3⟩, fun c h1 h2 => ?_⟩
    obtain ⟨es, g1, rfl⟩ := stp_plcs h1
    rw [plcs_last] at h2
    rw [shw_bld g1]
    exact a4 _ g1 (by omega)
theorem Least.rev {t w : List Str} {n : Nat} (h : Least t w n) : Least t.reverse w.reverse n := by
  rw [least_iff] at h ⊢
  obtain ⟨⟨ds, a1, a2, a3⟩, a4⟩ := h
  have lr : ∀ es : List Nat, (∀ d ∈ es, d ∈ wayson w.reverse) → ∀ d ∈ es.reverse, d ∈ wayson w := fun es g d hd => by
    have := wayson_rev (g d (by simpa using hd)); rwa [List.reverse_reverse] at this
  refine ⟨⟨ds.reverse, fun d hd => wayson_rev (a1 d (by simpa using hd)), by simpa using a2, ?_⟩, fun es h1 h2 => ?_⟩
  · rw [← bld_rev a1, mism_rev _ _ (by rw [bld_len a1]; omega)]; exact a3
  · have k := lr es h1
    have s : es.reverse.sum + w.length = t.length := by simpa using h2
    have := a4 es.reverse k s
    rw [← mism_rev _ _ (by rw [bld_len k]; omega), bld_rev k, List.reverse_reverse] at this
    exact this
end Ov
namespace Ov
open PySem (Str PyData)
open MV
theorem Least.le {t w : List Str} {n : Nat} (h : Least t w n) : n ≤ t.length := by
  obtain ⟨⟨c, a1, a2, rfl⟩, _⟩ := h
  exact mism_le _ _
end Ov
namespace Ov
open PySem (Str PyData)
open MV
def prf (f : Nat → Str) (n : Nat) : List Str := (List.range n).map f
structure Per (f : Nat → Str) (π m : Nat) : Prop where
  per : ∀ i, f (i + π) = f i
  pos : 0 < π
  div : π ∣ m
  mp : 0 < m
  ways : ∀ d, d ∈ wayson (prf f m) ↔ 1 ≤ d ∧ d ≤ m ∧ π ∣ d
section
variable {f : Nat → Str} {π m : Nat}
end
def dw (E m k : Nat) : List Nat := (List.range k).map fun i => E - (k - 1 - i) * m
inductive PwLe : List Nat → List Nat → Prop
  | nil : PwLe [] []
  | cons {x y : Nat} {a b : List Nat} : x ≤ y → PwLe a b → PwLe (x :: a) (y :: b)
section
variable {f : Nat → Str} {π m E : Nat}
def kk (E m : Nat) : Nat := (E + m - 1) / m
end
end Ov
namespace Ov
open PySem (Str PyData)
open MV
abbrev sA : Str := Str.ofString "a"
def fA : Nat → Str := fun _ => sA
end Ov
namespace Ov
open PySem (Str PyData)
open MV
end Ov
namespace Ov
open PySem (Str PyData)
open MV
end Ov
namespace Ov
open PySem (Str PyData)
open MV
end Ov
namespace Ov
structure Dns (L : List Nat) (s E : Nat) : Prop where
  srt : Srt L
  pos : 0 < s
  last : E ∈ L
  le : ∀ p ∈ L, p ≤ E
  nx : ∀ p ∈ L, p < E → ∃ q ∈ L, p < q ∧ q ≤ p + s
def cnd (L : List Nat) (s p : Nat) : List Nat := L.filter fun q => decide (p < q) && decide (q ≤ p + s)
theorem cnd_mem {L : List Nat} {s p q : Nat} : q ∈ cnd L s p ↔ q ∈ L ∧ p < q ∧ q ≤ p + s := by
  unfold cnd
  rw [List.mem_filter, Bool.and_eq_true, decide_eq_true_iff, decide_eq_true_iff]
def far (L : List Nat) (s p : Nat) : Nat := (L.filter fun q => decide (q ≤ p + s)).getLastD p
def gr (L : List Nat) (s E p : Nat) : Nat := if p < E then 1 + gr L s E (max (p + 1) (far L s p)) else 0
termination_by E - p
decreasing_by omega
section
variable {L : List Nat} {s E : Nat}
theorem last_max : ∀ {l : List Nat} {d : Nat}, Srt l → l ≠ [] → l.getLastD d ∈ l ∧ ∀ x ∈ l, x ≤ l.getLastD d
  | [a], d, _, _ => ⟨List.mem_cons_self, fun x hx => by rw [List.mem_singleton.mp hx]; exact Nat.le_refl _⟩
  | a :: b :: r, d, h, _ => by
    obtain ⟨h1, h2⟩ := List.pairwise_cons.mp h
    obtain ⟨i1, i2⟩ := last_max (d := a) h2 (by simp)
    refine ⟨List.mem_cons_of_mem _ i1, fun x hx => ?_⟩
    rcases List.mem_cons.mp hx with rfl | hx
    · exact Nat.le_of_lt (h1 _ i1)
    · exact i2 x hx
theorem far_spec (D : Dns L s E) {p : Nat} (hp : p ∈ L) : far L s p ∈ L ∧ far L s p ≤ p + s ∧ p ≤ far L s p ∧ ∀ q ∈ L, q ≤ p + s → q ≤ far L s p := by
  have hm : p ∈ L.filter fun q => decide (q ≤ p + s) := List.mem_filter.mpr ⟨hp, decide_eq_true (by omega)⟩
  obtain ⟨h1, h2⟩ := last_max (d := p) (srt_filter (fun q => decide (q ≤ p + s)) D.srt) (fun e => by rw [e] at hm; cases hm)
  obtain ⟨h3, h4⟩ := List.mem_filter.mp h1
  exact ⟨h3, of_decide_eq_true h4, h2 p hm, fun q hq hle => h2 q (List.mem_filter.mpr ⟨hq, decide_eq_true hle⟩)⟩
theorem far_gt (D : Dns L s E) {p : Nat} (hp : p ∈ L) (h : p < E) : p < far L s p := by
  obtain ⟨q, h1, h2, h3⟩ := D.nx p hp h
  have := (far_spec D hp).2.2.2 q h1 h3
  omega
theorem gr_step (D : Dns L s E) {p : Nat} (hp : p ∈ L) (h : p < E) : gr L s E p = 1 + gr L s E (far L s p) := by
  have := far_gt D hp h
  rw [gr, if_pos h, show max (p + 1) (far L s p) = far L s p by omega]
theorem gr_end {p : Nat} (h : ¬ p < E) : gr L s E p = 0 := by rw [gr, if_neg h]
theorem gr_mono (D : Dns L s E) : ∀ (n p q : Nat), E - p = n → p ∈ L → q ∈ L → p ≤ q → gr L s E q ≤ gr L s E p := by
  intro n
  induction n using Nat.strongRecOn with
  | ind n ih =>
    intro p q hn hp hq hle
    by_cases c : q < E
    · have cp : p < E := by omega
      obtain ⟨a1, a2, a3, a4⟩ := far_spec D hp
      obtain ⟨b1, b2, b3, b4⟩ := far_spec D hq
      have gt := far_gt D hp cp
      have lf := b4 _ a1 (by omega)
      rw [gr_step D hp cp, gr_step D hq c]
      have := ih (E - far L s p) (by have := D.le _ a1; omega) _ _ rfl a1 b1 lf
      omega
    · rw [gr_end c]; exact Nat.zero_le _
theorem gr_cnd (D : Dns L s E) {p q : Nat} (hp : p ∈ L) (hq : q ∈ cnd L s p) : gr L s E p ≤ 1 + gr L s E q := by
  obtain ⟨h1, h2, h3⟩ := cnd_mem.mp hq
  have hE := D.le q h1
  have cp : p < E := by omega
  obtain ⟨a1, a2, a3, a4⟩ := far_spec D hp
  rw [gr_step D hp cp]
  have := gr_mono D _ _ _ rfl h1 a1 (a4 q h1 h3)
  omega
theorem far_cnd (D : Dns L s E) {p : Nat} (hp : p ∈ L) (h : p < E) : far L s p ∈ cnd L s p := by
  obtain ⟨a1, a2, a3, a4⟩ := far_spec D hp
  exact cnd_mem.mpr ⟨a1, far_gt D hp h, a2⟩
def gd (L : List Nat) (s E p : Nat) : List Nat := (cnd L s p).filter fun q => decide (gr L s E q + 1 = gr L s E p)
def fs (L : List Nat) (s E p : Nat) : Nat := (gd L s E p).headD E
def fl (L : List Nat) (s E p : Nat) : List Nat := if p < E then fs L s E p :: fl L s E (max (p + 1) (fs L s E p)) else []
termination_by E - p
decreasing_by omega
theorem gd_ne (D : Dns L s E) {p : Nat} (hp : p ∈ L) (h : p < E) : gd L s E p ≠ [] := by
  intro e
  have : far L s p ∈ gd L s E p := List.mem_filter.mpr ⟨far_cnd D hp h, decide_eq_true (by rw [gr_step D hp h]; omega)⟩
  rw [e] at this; cases this
theorem gd_srt (D : Dns L s E) (p : Nat) : Srt (gd L s E p) := srt_filter _ (srt_filter _ D.srt)
theorem fs_spec (D : Dns L s E) {p : Nat} (hp : p ∈ L) (h : p < E) : ∃ r, gd L s E p = fs L s E p :: r ∧ fs L s E p ∈ L ∧ p < fs L s E p ∧ fs L s E p ≤ p + s ∧ gr L s E (fs L s E p) + 1 = gr L s E p ∧ ∀ q ∈ gd L s E p, fs L s E p ≤ q := by
  have ne := gd_ne D hp h
  have so := gd_srt D p
  unfold fs
  cases hg : gd L s E p with
  | nil => exact absurd hg ne
  | cons a r =>
    have hm : a ∈ gd L s E p := by rw [hg]; exact List.mem_cons_self
    obtain ⟨h1, h2⟩ := List.mem_filter.mp hm
    obtain ⟨h3, h4, h5⟩ := cnd_mem.mp h1
    refine ⟨r, rfl, h3, h4, h5, of_decide_eq_true h2, fun q hq => ?_⟩
    rw [hg] at so
    rcases List.mem_cons.mp hq with rfl | hq
    · exact Nat.le_refl _
    · exact Nat.le_of_lt ((List.pairwise_cons.mp so).1 q hq)
theorem fl_step (D : Dns L s E) {p : Nat} (hp : p ∈ L) (h : p < E) : fl L s E p = fs L s E p :: fl L s E (fs L s E p) := by
  obtain ⟨_, _, _, h1, _⟩ := fs_spec D hp h
  rw [fl, if_pos h, show max (p + 1) (fs L s E p) = fs L s E p by omega]
theorem fl_end {p : Nat} (h : ¬ p < E) : fl L s E p = [] := by rw [fl, if_neg h]
def Way (L : List Nat) (s E : Nat) : Nat → List Nat → Prop
  | p, [] => p = E
  | p, q :: r => q ∈ cnd L s p ∧ Way L s E q r
def kS (c : List Nat) : List Int := (c.length : Int) :: c.map fun k : Nat => (k : Int)
theorem way_min (D : Dns L s E) : ∀ (n p : Nat), E - p = n → p ∈ L → Way L s E p (fl L s E p) ∧ (fl L s E p).length = gr L s E p ∧ ∀ c, Way L s E p c → gr L s E p ≤ c.length ∧ ¬ kS c < kS (fl L s E p) := by
  intro n
  induction n using Nat.strongRecOn with
  | ind n ih =>
    intro p hn hp
    by_cases cp : p < E
    · obtain ⟨r0, f1, f2, f3, f4, f5, f6⟩ := fs_spec D hp cp
      have fE := D.le _ f2
      obtain ⟨i1, i2, i3⟩ := ih (E - fs L s E p) (by omega) _ rfl f2
      rw [fl_step D hp cp]
      refine ⟨⟨cnd_mem.mpr ⟨f2, f3, f4⟩, i1⟩, by rw [List.length_cons, i2, f5], fun c hc => ?_⟩
      cases c with
      | nil => have hc : p = E := hc; omega
      | cons q r =>
        obtain ⟨h1, h2⟩ := hc
        obtain ⟨g1, g2, g3⟩ := cnd_mem.mp h1
        have qE := D.le q g1
        obtain ⟨j1, j2, j3⟩ := ih (E - q) (by omega) q rfl g1
        obtain ⟨k1, k2⟩ := j3 r h2
        have gc := gr_cnd D hp h1
        refine ⟨by rw [List.length_cons]; omega, ?_⟩
        unfold kS at k2 ⊢
        simp only [List.cons_lt_cons_iff, List.map_cons, List.length_cons] at k2 ⊢
        rintro (h | ⟨h3, h | ⟨h4, h⟩⟩)
        · omega
        · have hq : q ∈ gd L s E p := List.mem_filter.mpr ⟨h1, decide_eq_true (by omega)⟩
          have := f6 q hq
          omega
        · have e : q = fs L s E p := by omega
          rw [← e] at h i2 h3
          exact k2 (.inr ⟨by omega, h⟩)
    · have e : p = E := by have := D.le p hp; omega
      rw [fl_end cp, gr_end cp]
      refine ⟨e, rfl, fun c hc => ?_⟩
      cases c with
      | nil => exact ⟨Nat.le_refl _, List.lt_irrefl _⟩
      | cons q r =>
        obtain ⟨h1, _⟩ := hc
        obtain ⟨g1, g2, g3⟩ := cnd_mem.mp h1
        have := D.le q g1
        omega
end
end Ov
namespace Ov
open PySem (Str PyData)
open MV
def kvG (f : Nat → D) (ks : List Nat) : List (L2.Key × D) := ks.map fun k : Nat => (Sum.inl (k : Int), f k)
abbrev dG (f : Nat → D) (ks : List Nat) : D := .dic (kvG f ks)
theorem kvG_any {f : Nat → D} {k : Nat} : ∀ {ks : List Nat}, ((kvG f ks).any fun kv => decide (kv.1 = Sum.inl (k : Int))) = decide (k ∈ ks)
  | [] => rfl
  | a :: r => by
    have := kvG_any (f := f) (k := k) (ks := r)
    unfold kvG at this ⊢
    rw [List.map_cons, List.any_cons, this]
    by_cases e : a = k
    · subst e; simp
    · have : ¬ ((Sum.inl (a : Int) : L2.Key) = Sum.inl (k : Int)) := fun z => e (by have := Sum.inl.inj z; omega)
      have e' : ¬ k = a := fun z => e z.symm
      simp [this, e']
theorem dval_G {f : Nat → D} {k : Nat} : ∀ {ks : List Nat}, dval (kvG f ks) (Sum.inl (k : Int)) = if k ∈ ks then some (f k) else none
  | [] => rfl
  | a :: r => by
    have ih := dval_G (f := f) (k := k) (ks := r)
    unfold dval kvG at ih ⊢
    rw [List.map_cons, List.find?_cons]
    by_cases e : a = k
    · subst e; simp
    · have : ¬ ((Sum.inl (a : Int) : L2.Key) = Sum.inl (k : Int)) := fun z => e (by have := Sum.inl.inj z; omega)
      have e' : ¬ k = a := fun z => e z.symm
      rw [decide_eq_false this]
      simp only [List.mem_cons, e', false_or]
      exact ih
theorem dput_new {f : Nat → D} {ks : List Nat} {k : Nat} {d : D} (h : k ∉ ks) : dput (kvG f ks) (Sum.inl (k : Int)) d = kvG f ks ++ [(Sum.inl (k : Int), d)] := by
  unfold dput
  rw [kvG_any, decide_eq_false h, if_neg (by decide)]
theorem kvG_keep {f : Nat → D} {k : Nat} {d : D} : ∀ {ks : List Nat}, k ∉ ks → (kvG f ks).map (fun kv => if kv.1 = Sum.inl (k : Int) then (kv.1, d) else kv) = kvG f ks
  | [], _ => rfl
  | a :: r, h => by
    have ih := kvG_keep (f := f) (k := k) (d := d) (ks := r) (fun m => h (List.mem_cons_of_mem _ m))
    unfold kvG at ih ⊢
    have : ¬ ((Sum.inl (a : Int) : L2.Key) = Sum.inl (k : Int)) := fun z => h (by have := Sum.inl.inj z; rw [show k = a by omega]; exact List.mem_cons_self)
    rw [List.map_cons, List.map_cons, ih, if_neg this]
theorem dput_again {f : Nat → D} {ks : List Nat} {k : Nat} {d d0 : D} (h : k ∉ ks) : dput (kvG f ks ++ [(Sum.inl (k : Int), d0)]) (Sum.inl (k : Int)) d = kvG f ks ++ [(Sum.inl (k : Int), d)] := by
  unfold dput
  rw [if_pos (by rw [List.any_append]; simp), List.map_append, kvG_keep h]
  simp
theorem kvG_snoc (f : Nat → D) (ks : List Nat) (k : Nat) : kvG f ks ++ [(Sum.inl (k : Int), f k)] = kvG f (ks ++ [k]) := by unfold kvG; rw [List.map_append]; rfl
theorem kvG_len (f : Nat → D) (ks : List Nat) : (kvG f ks).length = ks.length := by unfold kvG; rw [List.length_map]
theorem gDIx_G {f : Nat → D} {ks : List Nat} {k : Nat} (h : k ∈ ks) : gDIx (dG f ks) (.int (k : Int)) = some (f k) := by
  show (match (some (dval (kvG f ks) (Sum.inl (k : Int))) : Option (Option D)) with | some (some d) => some d | _ => none) = _
  rw [dval_G, if_pos h]
theorem keysI_G (f : Nat → D) : ∀ ks : List Nat, keysI (kvG f ks) = some (ks.map fun k : Nat => (k : Int))
  | [] => rfl
  | a :: r => by
    have ih := keysI_G f r
    unfold kvG at ih ⊢
    rw [List.map_cons, keysI, ih]; rfl
theorem gSorted_G (f : Nat → D) {L : List Nat} (hs : Srt L) : gSorted [dG f L.reverse] = some (dN L) := by
  rw [gSorted_k, keysI_G]
  simp only [Option.map_some]
  rw [← srtI_unique (a := L.map fun k : Nat => (k : Int))]
  · rw [List.map_map]; rfl
  · rw [List.map_reverse]; exact (List.reverse_perm _).symm
  · rw [List.pairwise_map]
    exact List.Pairwise.imp (fun h => by omega) hs
theorem min1_nat {L : List Nat} (h : L ≠ []) : ∃ m, gMin1 [dN L] = some (.int ((m : Nat) : Int)) ∧ m ∈ L ∧ ∀ x ∈ L, m ≤ x := by
  have hne : L.map (fun k : Nat => (k : Int)) ≠ [] := fun e => h (List.map_eq_nil_iff.mp e)
  obtain ⟨h1, h2⟩ := minL_spec _ hne
  obtain ⟨m, m1, m2⟩ := List.mem_map.mp h1
  refine ⟨m, ?_, m1, fun x hx => ?_⟩
  · rw [dN_dI]
    show (match asInts ((L.map fun k : Nat => (k : Int)).map D.int) with | some ns => if ns = [] then none else some (D.int (minL ns)) | none => none) = _
    rw [asInts_dI]
    show (if L.map (fun k : Nat => (k : Int)) = [] then none else some (D.int (minL (L.map fun k : Nat => (k : Int))))) = _
    rw [if_neg hne, ← m2]
  · have := h2 (x : Int) (List.mem_map.mpr ⟨x, hx, rfl⟩)
    rw [← m2] at this
    omega
section
variable {t w : List Str}
def fG (L : List Nat) (s E : Nat) (p : Nat) : D := .int ((gr L s E p : Nat) : Int)
theorem fG_int (L : List Nat) (s E p : Nat) : fG L s E p = .int ((gr L s E p : Nat) : Int) := rfl
theorem onward_row {L : List Nat} {E : Nat} (D : Dns L w.length E) (hE : t.length = E + w.length) (hl : t.length ≤ 1000) (hL : L.length ≤ 1001) {p : Nat} (hp : p ∈ L) {ks : List Nat} (hk : ∀ q, q ∈ ks ↔ q ∈ L ∧ p < q) (hkl : ks.length ≤ 1001) {x5 : Option MV.D} :
    ∃ y5, B_onward_l1 [some (dT t), some (dT w), some (dN L), some (.dic (kvG (fG L w.length E) ks)), some (.int (p : Int)), x5, none] = .ok .nx [some (dT t), some (dT w), some (dN L), some (.dic (kvG (fG L w.length E) (ks ++ [p]))), some (.int (p : Int)), y5, none] := by
  have pn : p ∉ ks := fun h => by have := (hk p).mp h; omega
  have lc := lc_nat (is := [6]) (tg := tgN 6) (t := tAnd2 (tB (eChain gLt gLe (eV 4) (eV 6) (e2 gAdd (eV 4) (eN gLen (aCons (eV 1) aNil))))) (tB (e2 gNotN (e2 gDIx (eV 3) (eS (eV 6))) (eC .non)))) (fe := eS (e2 gDIx (eV 3) (eS (eV 6)))) (e := [some (dT t), some (dT w), some (dN L), some (.dic (kvG (fG L w.length E) ks)), some (.int (p : Int)), x5, none]) (fun q => decide (p < q) && decide (q ≤ p + w.length)) (fun q => .int ((gr L w.length E q : Nat) : Int)) L (by show _ ≤ 100000; omega)
    (fun q hq => by
      refine ⟨_, [some (dT t), some (dT w), some (dN L), some (.dic (kvG (fG L w.length E) ks)), some (.int (p : Int)), x5, some (.int (q : Int))], rfl, ?_, fun h => ⟨[some (dT t), some (dT w), some (dN L), some (.dic (kvG (fG L w.length E) ks)), some (.int (p : Int)), x5, some (.int (q : Int))], ?_, rfl⟩, fun _ => rfl⟩
      · by_cases c : p < q
        · have gx := gDIx_G (f := fG L w.length E) ((hk q).mpr ⟨hq, c⟩)
          have gx : gDIx (.dic (kvG (fG L w.length E) ks)) (.int (q : Int)) = some (.int ((gr L w.length E q : Nat) : Int)) := gx
          have nn : gNotN (.int ((gr L w.length E q : Nat) : Int)) .non = some (.bl true) := rfl
          generalize kvG (fG L w.length E) ks = DD at gx
          by_cases c2 : q ≤ p + w.length
          · have c2' : (q : Int) ≤ (p : Int) + (w.length : Int) := by omega
            rw [decide_eq_true c, decide_eq_true c2]
            simp [c, c2', gx, nn]
          · have c2' : ¬ (q : Int) ≤ (p : Int) + (w.length : Int) := by omega
            rw [decide_eq_true c, decide_eq_false c2]
            simp [c, c2']
        · generalize kvG (fG L w.length E) ks = DD
          rw [decide_eq_false c]
          simp [c]
      · rw [Bool.and_eq_true, decide_eq_true_iff] at h
        have gx := gDIx_G (f := fG L w.length E) ((hk q).mpr ⟨hq, h.1⟩)
        have gx : gDIx (.dic (kvG (fG L w.length E) ks)) (.int (q : Int)) = some (.int ((gr L w.length E q : Nat) : Int)) := gx
        generalize kvG (fG L w.length E) ks = DD at gx
        simp [gx])
  have lc : lcGo [6] (tgN 6) (tAnd2 (tB (eChain gLt gLe (eV 4) (eV 6) (e2 gAdd (eV 4) (eN gLen (aCons (eV 1) aNil))))) (tB (e2 gNotN (e2 gDIx (eV 3) (eS (eV 6))) (eC .non)))) (eS (e2 gDIx (eV 3) (eS (eV 6)))) (L.map fun k : Nat => MV.D.int (k : Int)) [] [some (dT t), some (dT w), some (dN L), some (.dic (kvG (fG L w.length E) ks)), some (.int (p : Int)), x5, none] = .ok (((cnd L w.length p).map fun q => gr L w.length E q).map fun k : Nat => MV.D.int (k : Int)) [some (dT t), some (dT w), some (dN L), some (.dic (kvG (fG L w.length E) ks)), some (.int (p : Int)), x5, none] := by
    rw [List.map_map]; exact lc
  have kl : (kvG (fG L w.length E) ks).length < LIM := by rw [kvG_len]; show _ < 100000; omega
  have d1 : ∀ d : MV.D, dPut (.dic (kvG (fG L w.length E) ks)) (.int (p : Int)) d = some (.dic (kvG (fG L w.length E) ks ++ [(Sum.inl (p : Int), d)])) := fun d => by
    show (if (kvG (fG L w.length E) ks).length < LIM then some (MV.D.dic (dput (kvG (fG L w.length E) ks) (Sum.inl (p : Int)) d)) else none) = _
    rw [if_pos kl, dput_new pn]
  have d2 : ∀ d0 d : MV.D, dPut (.dic (kvG (fG L w.length E) ks ++ [(Sum.inl (p : Int), d0)])) (.int (p : Int)) d = some (.dic (kvG (fG L w.length E) ks ++ [(Sum.inl (p : Int), d)])) := fun d0 d => by
    show (if (kvG (fG L w.length E) ks ++ [(Sum.inl (p : Int), d0)]).length < LIM then some (MV.D.dic (dput (kvG (fG L w.length E) ks ++ [(Sum.inl (p : Int), d0)]) (Sum.inl (p : Int)) d)) else none) = _
    rw [List.length_append, kvG_len, if_pos (by show ks.length + 1 < 100000; omega), dput_again pn]
  have sn := kvG_snoc (fG L w.length E) ks p
  have nn := gNe_nN ((cnd L w.length p).map fun q => gr L w.length E q)
  have hpE := D.le p hp
  refine ⟨some (dN ((cnd L w.length p).map fun q => gr L w.length E q)), ?_⟩
  by_cases c : p = E
  · have c' : (p : Int) + (w.length : Int) = (t.length : Int) := by omega
    have g0 : fG L w.length E p = .int 0 := by rw [fG_int, gr_end (by omega)]; rfl
    rw [← sn, g0]
    generalize ((cnd L w.length p).map fun q => gr L w.length E q) = CS at lc nn
    generalize kvG (fG L w.length E) ks = KV at lc d1 d2
    simp [B_onward_l1, lc, d1, c', d2]
  · have c' : ¬ (p : Int) + (w.length : Int) = (t.length : Int) := by omega
    have hlt : p < E := by omega
    have ne : (cnd L w.length p).map (fun q => gr L w.length E q) ≠ [] := fun e => by
      have := far_cnd D hp hlt
      rw [List.map_eq_nil_iff.mp e] at this; cases this
    rw [decide_eq_false ne] at nn
    obtain ⟨m, m1, m2, m3⟩ := min1_nat ne
    have gm : 1 + m = gr L w.length E p := by
      obtain ⟨q, hq, e⟩ := List.mem_map.mp m2
      have h1 := gr_cnd D hp hq
      have h2 := m3 _ (List.mem_map.mpr ⟨_, far_cnd D hp hlt, rfl⟩)
      have h3 := gr_step D hp hlt
      omega
    have g0 : fG L w.length E p = .int (1 + (m : Int)) := by rw [fG_int, ← gm]; simp
    rw [← sn, g0]
    generalize ((cnd L w.length p).map fun q => gr L w.length E q) = CS at lc nn m1
    generalize kvG (fG L w.length E) ks = KV at lc d1 d2
    simp [B_onward_l1, lc, d1, c', nn, hsz0, m1, d2]
end
end Ov
namespace Ov
open PySem (Str PyData)
open MV
theorem take_gt : ∀ {l : List Nat} {i : Nat} (hi : i < l.length), l.Pairwise (· > ·) → ∀ q, q ∈ l.take i ↔ q ∈ l ∧ l[i] < q
  | a :: r, 0, _, h, q => by
    obtain ⟨h1, h2⟩ := List.pairwise_cons.mp h
    simp only [List.take_zero, List.not_mem_nil, false_iff, List.getElem_cons_zero]
    rintro ⟨m, hlt⟩
    rcases List.mem_cons.mp m with rfl | m
    · omega
    · have := h1 q m; omega
  | a :: r, i + 1, hi, h, q => by
    obtain ⟨h1, h2⟩ := List.pairwise_cons.mp h
    have hi' : i < r.length := by simpa using hi
    have ih := take_gt hi' h2 q
    rw [List.take_succ_cons, List.mem_cons, List.mem_cons, ih, List.getElem_cons_succ]
    have := h1 r[i] (List.getElem_mem hi')
    constructor
    · rintro (rfl | ⟨m, hlt⟩)
      · exact ⟨.inl rfl, this⟩
      · exact ⟨.inr m, hlt⟩
    · rintro ⟨rfl | m, hlt⟩
      · exact .inl rfl
      · exact .inr ⟨m, hlt⟩
section
variable {t w : List Str} {E : Nat}
theorem onward_val (ht : Tx t) (hw : Tx w) (w0 : w ≠ []) (hl : t.length ≤ 1000) (hE : t.length = E + w.length) (D : Dns (lies t w) w.length E) : F_onward [dT t, dT w] = .ok (.dic (kvG (fG (lies t w) w.length E) (lies t w).reverse)) (dT t) := by
  have lv := lies_at_val ht hw w0 hl (by omega)
  have ll : (lies t w).length ≤ 1001 := by
    unfold lies
    refine Nat.le_trans (List.length_filter_le _ _) ?_
    rw [List.length_range]; omega
  generalize hL : lies t w = L at lv ll D
  have pr : L.reverse.Pairwise (· > ·) := by rw [List.pairwise_reverse]; exact D.srt
  obtain ⟨e', h1, y4, y5, rfl⟩ := for_inv (tg := tgN 4) (b := B_onward_l1) (ds := L.reverse.map fun k : Nat => MV.D.int (k : Int)) (e := [some (dT t), some (dT w), some (dN L), some (.dic []), none, none, none])
    (fun i e => ∃ y4 y5, e = [some (dT t), some (dT w), some (dN L), some (.dic (kvG (fG L w.length E) (L.reverse.take i))), y4, y5, none])
    ⟨none, none, rfl⟩
    (fun i d e hd hi => by
      obtain ⟨y4, y5, rfl⟩ := hi
      rw [List.getElem?_map] at hd
      have hil : i < L.reverse.length := by
        by_cases z : i < L.reverse.length
        · exact z
        · rw [List.getElem?_eq_none (by omega)] at hd; cases hd
      rw [List.getElem?_eq_getElem hil] at hd
      cases hd
      have hp : L.reverse[i] ∈ L := List.mem_reverse.mp (List.getElem_mem hil)
      obtain ⟨z5, g⟩ := onward_row D hE hl ll hp (ks := L.reverse.take i) (fun q => by rw [take_gt hil pr q, List.mem_reverse]) (by rw [List.length_take, List.length_reverse]; omega) (x5 := y5)
      refine ⟨_, _, .nx, rfl, g, .inl rfl, some (.int ((L.reverse[i] : Nat) : Int)), z5, ?_⟩
      rw [List.take_succ_eq_append_getElem hil])
  rw [List.length_map, List.take_length] at h1
  have rv : (L.map fun k : Nat => MV.D.int (k : Int)).reverse = L.reverse.map fun k : Nat => MV.D.int (k : Int) := by rw [List.map_reverse]
  simp only [F_onward, r_runF, B_onward]
  generalize kvG (fG L w.length E) L.reverse = KV at h1
  generalize L.reverse.map (fun k : Nat => MV.D.int (k : Int)) = RL at h1 rv
  simp [lv, rv, h1, -List.map_reverse]
theorem last_at (pre : List Nat) (p : Nat) : L2.atI ((pre ++ [p]).map fun k : Nat => MV.D.int (k : Int)) (-1) = some (.int (p : Int)) := by
  rw [atI_neg1, List.map_append]
  simp
theorem gr_pos {L : List Nat} {s : Nat} (D : Dns L s E) {p : Nat} (hp : p ∈ L) : 0 < gr L s E p ↔ p < E := by
  constructor
  · intro h
    by_cases c : p < E
    · exact c
    · rw [gr_end c] at h; omega
  · intro h
    rw [gr_step D hp h]; omega
theorem fewest_layings_val (ht : Tx t) (hw : Tx w) (t0 : t ≠ []) (w0 : w ≠ []) (hl : t.length ≤ 1000) (hE : t.length = E + w.length) (D : Dns (lies t w) w.length E) (h0 : 0 ∈ lies t w) : F_fewest_layings [dT t, dT w] = .ok (dN (0 :: fl (lies t w) w.length E 0)) (dT t) := by
  have nb := need_both_val ht hw t0 w0 hl (by omega)
  have ov := onward_val ht hw w0 hl hE D
  have ll : (lies t w).length ≤ 1001 := by
    unfold lies
    refine Nat.le_trans (List.length_filter_le _ _) ?_
    rw [List.length_range]; omega
  generalize hL : lies t w = L at ov ll D h0
  have z1 : (1 : Nat) ≤ PySem.sizeLine := by decide
  have gx : ∀ p, p ∈ L → gDIx (.dic (kvG (fG L w.length E) L.reverse)) (.int (p : Int)) = some (.int ((gr L w.length E p : Nat) : Int)) := fun p hp => gDIx_G (f := fG L w.length E) (List.mem_reverse.mpr hp)
  have g0 : eDGet1 (eV 2) (eC (.int 0)) [some (dT t), some (dT w), some (.dic (kvG (fG L w.length E) L.reverse)), none, none, none, none] = .ok (.int ((gr L w.length E 0 : Nat) : Int)) [some (dT t), some (dT w), some (.dic (kvG (fG L w.length E) L.reverse)), none, none, none, none] := by
    have dv := dval_G (f := fG L w.length E) (k := 0) (ks := L.reverse)
    rw [if_pos (List.mem_reverse.mpr h0), fG_int] at dv
    have dv : dval (kvG (fG L w.length E) L.reverse) (Sum.inl (0 : Int)) = _ := dv
    generalize kvG (fG L w.length E) L.reverse = KV at dv
    simp [dv]
  have sg : gSorted [.dic (kvG (fG L w.length E) L.reverse)] = some (dN L) := gSorted_G (fG L w.length E) D.srt
  generalize kvG (fG L w.length E) L.reverse = KV at ov gx g0 sg
  have isn : ∀ i : Int, gIsN (.int i) .non = some (.bl false) := fun _ => rfl
  obtain ⟨e', g1, y4, y5, rfl⟩ := while_inv (t := T_fewest_layings_l1) (b := B_fewest_layings_l2)
    (fun e => ∃ (pre : List Nat) (p : Nat) (y4 y5 : Option MV.D), e = [some (dT t), some (dT w), some (.dic KV), some (dN (pre ++ [p])), y4, y5, none] ∧ p ∈ L ∧ pre ++ p :: fl L w.length E p = 0 :: fl L w.length E 0 ∧ pre.length ≤ p)
    (fun e : PEnv => match e[3]? with | some (some (MV.D.lst ds)) => (match L2.atI ds (-1) with | some (.int i) => E - i.toNat | _ => 0) | _ => 0)
    (fun e => ∃ (y4 y5 : Option MV.D), e = [some (dT t), some (dT w), some (.dic KV), some (dN (0 :: fl L w.length E 0)), y4, y5, none])
    (fun e he => by
      obtain ⟨pre, p, y4, y5, rfl, q1, q2, q3⟩ := he
      have la := last_at pre p
      have gp := gx p q1
      have pE := D.le p q1
      by_cases c : p < E
      · obtain ⟨r, f1, f2, f3, f4, f5, f6⟩ := fs_spec D q1 c
        have fE := D.le _ f2
        have pos : (0 : Int) < ((gr L w.length E p : Nat) : Int) := by have := (gr_pos D q1).mpr c; omega
        refine ⟨true, [some (dT t), some (dT w), some (.dic KV), some (dN (pre ++ [p])), y4, y5, none], ?_, ?_⟩
        · generalize hC : ((pre ++ [p]).map fun k : Nat => MV.D.int (k : Int)) = C at la
          have dc : dN (pre ++ [p]) = .lst C := by rw [← hC]
          rw [dc]
          generalize ((gr L w.length E p : Nat) : Int) = GP at gp pos
          simp [T_fewest_layings_l1, la, gp, pos]
        · rw [if_pos rfl]
          have lc1 := lc_nat (is := [6]) (tg := tgN 6) (t := tB (eChain gLt gLe (eV 4) (eV 6) (e2 gAdd (eV 4) (eN gLen (aCons (eV 1) aNil))))) (fe := eV 6) (e := [some (dT t), some (dT w), some (.dic KV), some (dN (pre ++ [p])), some (.int (p : Int)), y5, none]) (fun q => decide (p < q) && decide (q ≤ p + w.length)) (fun q => .int (q : Int)) L (by show _ ≤ 100000; omega)
            (fun q hq => by
              refine ⟨_, [some (dT t), some (dT w), some (.dic KV), some (dN (pre ++ [p])), some (.int (p : Int)), y5, some (.int (q : Int))], rfl, ?_, fun h => ⟨_, rfl, rfl⟩, fun _ => rfl⟩
              by_cases c1 : p < q
              · by_cases c2 : q ≤ p + w.length
                · have c2' : (q : Int) ≤ (p : Int) + (w.length : Int) := by omega
                  rw [decide_eq_true c1, decide_eq_true c2]
                  simp [c1, c2']
                · have c2' : ¬ (q : Int) ≤ (p : Int) + (w.length : Int) := by omega
                  rw [decide_eq_true c1, decide_eq_false c2]
                  simp [c1, c2']
              · rw [decide_eq_false c1]
                simp [c1])
          have lc1 : lcGo [6] (tgN 6) (tB (eChain gLt gLe (eV 4) (eV 6) (e2 gAdd (eV 4) (eN gLen (aCons (eV 1) aNil))))) (eV 6) (L.map fun k : Nat => MV.D.int (k : Int)) [] [some (dT t), some (dT w), some (.dic KV), some (dN (pre ++ [p])), some (.int (p : Int)), y5, none] = .ok ((cnd L w.length p).map fun k : Nat => MV.D.int (k : Int)) [some (dT t), some (dT w), some (.dic KV), some (dN (pre ++ [p])), some (.int (p : Int)), y5, none] := lc1
          have lc2 := lc_nat (is := [6]) (tg := tgN 6) (t := tB (e2 gEq (e2 gDIx (eV 2) (eV 6)) (e2 gSub (e2 gDIx (eV 2) (eV 4)) (eC (.int 1))))) (fe := eV 6) (e := [some (dT t), some (dT w), some (.dic KV), some (dN (pre ++ [p])), some (.int (p : Int)), some (dN (cnd L w.length p)), none]) (fun q => decide (gr L w.length E q + 1 = gr L w.length E p)) (fun q => .int (q : Int)) (cnd L w.length p) (by
              unfold cnd
              refine Nat.le_trans (List.length_filter_le _ _) ?_
              show _ ≤ 100000; omega)
            (fun q hq => by
              refine ⟨_, [some (dT t), some (dT w), some (.dic KV), some (dN (pre ++ [p])), some (.int (p : Int)), some (dN (cnd L w.length p)), some (.int (q : Int))], rfl, ?_, fun h => ⟨_, rfl, rfl⟩, fun _ => rfl⟩
              have gq := gx q (cnd_mem.mp hq).1
              have e : decide (((gr L w.length E q : Nat) : Int) = ((gr L w.length E p : Nat) : Int) - 1) = decide (gr L w.length E q + 1 = gr L w.length E p) := by
                rw [Bool.eq_iff_iff, decide_eq_true_iff, decide_eq_true_iff]; omega
              rw [← e]
              generalize ((gr L w.length E p : Nat) : Int) = GP at gp
              generalize ((gr L w.length E q : Nat) : Int) = GQ at gq
              simp [gq, gp])
          have lc2 : lcGo [6] (tgN 6) (tB (e2 gEq (e2 gDIx (eV 2) (eV 6)) (e2 gSub (e2 gDIx (eV 2) (eV 4)) (eC (.int 1))))) (eV 6) ((cnd L w.length p).map fun k : Nat => MV.D.int (k : Int)) [] [some (dT t), some (dT w), some (.dic KV), some (dN (pre ++ [p])), some (.int (p : Int)), some (dN (cnd L w.length p)), none] = .ok ((gd L w.length E p).map fun k : Nat => MV.D.int (k : Int)) [some (dT t), some (dT w), some (.dic KV), some (dN (pre ++ [p])), some (.int (p : Int)), some (dN (cnd L w.length p)), none] := lc2
          have hd0 : L2.atI ((gd L w.length E p).map fun k : Nat => MV.D.int (k : Int)) 0 = some (.int ((fs L w.length E p : Nat) : Int)) := by
            rw [f1, show (0 : Int) = ((0 : Nat) : Int) from rfl, atI_eq]; rfl
          have cl : (pre ++ [p]).length < LIM := by rw [List.length_append]; show pre.length + 1 < 100000; omega
          refine ⟨.nx, [some (dT t), some (dT w), some (.dic KV), some (dN ((pre ++ [p]) ++ [fs L w.length E p])), some (.int (p : Int)), some (dN (cnd L w.length p)), none], ?_, .inl rfl, ⟨pre ++ [p], fs L w.length E p, some (.int (p : Int)), some (dN (cnd L w.length p)), rfl, f2, ?_, by rw [List.length_append]; show pre.length + 1 ≤ _; omega⟩, ?_⟩
          · have d2 : dN ((pre ++ [p]) ++ [fs L w.length E p]) = .lst (((pre ++ [p]).map fun k : Nat => MV.D.int (k : Int)) ++ [.int ((fs L w.length E p : Nat) : Int)]) := by
              show MV.D.lst _ = MV.D.lst _
              rw [List.map_append (l₂ := [fs L w.length E p])]; rfl
            have cl2 : ((pre ++ [p]).map fun k : Nat => MV.D.int (k : Int)).length < LIM := by rw [List.length_map]; exact cl
            rw [d2]
            have dc : dN (pre ++ [p]) = .lst ((pre ++ [p]).map fun k : Nat => MV.D.int (k : Int)) := rfl
            rw [dc] at lc1 lc2 ⊢
            generalize ((pre ++ [p]).map fun k : Nat => MV.D.int (k : Int)) = C at la lc1 lc2 cl2
            generalize ((gd L w.length E p).map fun k : Nat => MV.D.int (k : Int)) = GD at lc2 hd0
            have dcn : dN (cnd L w.length p) = .lst ((cnd L w.length p).map fun k : Nat => MV.D.int (k : Int)) := rfl
            rw [dcn] at lc2 ⊢
            generalize ((cnd L w.length p).map fun k : Nat => MV.D.int (k : Int)) = CN at lc1 lc2
            have flL : (dN L).flat = true := by show (L.map _).all MV.D.sc = true; rw [List.all_map, List.all_eq_true]; intro z _; rfl
            simp only [flat_l] at flL
            simp [B_fewest_layings_l2, la, sg, lc1, lc2, hd0, cl2, List.all_map]
          · rw [← q2, fl_step D q1 c, List.append_assoc]; rfl
          · show (match L2.atI (((pre ++ [p]) ++ [fs L w.length E p]).map fun k : Nat => MV.D.int (k : Int)) (-1) with | some (.int i) => E - i.toNat | _ => 0) < (match L2.atI ((pre ++ [p]).map fun k : Nat => MV.D.int (k : Int)) (-1) with | some (.int i) => E - i.toNat | _ => 0)
            rw [last_at, last_at]
            show E - ((fs L w.length E p : Nat) : Int).toNat < E - ((p : Nat) : Int).toNat
            omega
      · have z0 : gr L w.length E p = 0 := gr_end c
        rw [z0] at gp
        refine ⟨false, [some (dT t), some (dT w), some (.dic KV), some (dN (pre ++ [p])), y4, y5, none], ?_, ?_⟩
        · generalize hC : ((pre ++ [p]).map fun k : Nat => MV.D.int (k : Int)) = C at la
          have dc : dN (pre ++ [p]) = .lst C := by rw [← hC]
          have gp : gDIx (.dic KV) (.int (p : Int)) = some (.int 0) := gp
          rw [dc]
          simp [T_fewest_layings_l1, la, gp]
        · rw [if_neg (by decide)]
          rw [fl_end c] at q2
          exact ⟨y4, y5, by rw [← q2]⟩)
    WFUEL [some (dT t), some (dT w), some (.dic KV), some (dN ([] ++ [0])), none, none, none] ⟨[], 0, none, none, rfl, h0, rfl, Nat.le_refl _⟩ (by
      show E - 0 < 1000000
      omega)
  have g1 : sWhile T_fewest_layings_l1 B_fewest_layings_l2 WFUEL [some (dT t), some (dT w), some (.dic KV), some (.lst [.int 0]), none, none, none] = _ := g1
  simp only [F_fewest_layings, r_runF, B_fewest_layings]
  generalize dN (0 :: fl L w.length E 0) = FIN at g1
  simp [nb, ov, ↓g0, isn, z1, g1]
end
end Ov
namespace Ov
open PySem (Str PyData)
open MV
section
variable {L : List Nat} {s E : Nat}
end
end Ov
namespace Ov
open PySem (Str PyData)
open MV
section
variable {L : List Nat} {s E : Nat}
theorem reach_halt : ∀ {S : List Nat} {r : Nat}, (∀ x ∈ S, r < x) → reach s r S = r
  | [], _, _ => rfl
  | q :: S, r, h => by
    have := h q List.mem_cons_self
    rw [reach, if_neg (by omega)]
    exact reach_halt fun x hx => h x (List.mem_cons_of_mem _ hx)
theorem reach_way : ∀ {S : List Nat} {p : Nat}, Srt S → (∀ x ∈ S, p < x ∧ x ∈ L ∧ x ≤ E) → (reach s (p + s) S = E + s ↔ Way L s E p S)
  | [], p, _, _ => by
    show p + s = E + s ↔ p = E
    omega
  | q :: r, p, hs, h => by
    obtain ⟨h1, h2⟩ := List.pairwise_cons.mp hs
    obtain ⟨a1, a2, a3⟩ := h q List.mem_cons_self
    have hr : ∀ x ∈ r, q < x ∧ x ∈ L ∧ x ≤ E := fun x hx => ⟨h1 x hx, (h x (List.mem_cons_of_mem _ hx)).2⟩
    rw [reach]
    by_cases c : q ≤ p + s
    · rw [if_pos c, reach_way h2 hr]
      exact ⟨fun w => ⟨cnd_mem.mpr ⟨a2, a1, c⟩, w⟩, fun w => w.2⟩
    · rw [if_neg c, reach_halt fun x hx => by have := (hr x hx).1; omega]
      constructor
      · intro e; omega
      · intro w
        have := (cnd_mem.mp w.1).2.2
        omega
theorem reach_zero (h0 : 0 < s) {S : List Nat} (hs : Srt S) (h : ∀ x ∈ S, x ∈ L ∧ x ≤ E) : reach s 0 S = E + s ↔ ∃ c, S = 0 :: c ∧ Way L s E 0 c := by
  cases S with
  | nil =>
    constructor
    · intro e
      have e : 0 = E + s := e
      omega
    · rintro ⟨c, e, _⟩; cases e
  | cons q r =>
    obtain ⟨h1, h2⟩ := List.pairwise_cons.mp hs
    have hr : ∀ x ∈ r, q < x ∧ x ∈ L ∧ x ≤ E := fun x hx => ⟨h1 x hx, h x (List.mem_cons_of_mem _ hx)⟩
    rw [reach]
    by_cases c : q ≤ 0
    · have : q = 0 := by omega
      subst this
      rw [if_pos c, reach_way h2 hr]
      constructor
      · exact fun w => ⟨r, rfl, w⟩
      · rintro ⟨c, e, w⟩; cases e; exact w
    · rw [if_neg c, reach_halt fun x hx => by have := (hr x hx).1; omega]
      constructor
      · intro e; omega
      · rintro ⟨c', e, _⟩
        cases e; omega
theorem way_in : ∀ {c : List Nat} {p : Nat}, Way L s E p c → E ∈ p :: c ∧ ∀ x ∈ p :: c, x < E → ∃ q ∈ p :: c, x < q ∧ q ≤ x + s
  | [], p, h => by
    have h : p = E := h
    subst h
    refine ⟨List.mem_cons_self, fun x hx hlt => ?_⟩
    rw [List.mem_singleton.mp hx] at hlt; omega
  | q :: r, p, h => by
    obtain ⟨h1, h2⟩ := h
    obtain ⟨i1, i2⟩ := way_in h2
    obtain ⟨_, g2, g3⟩ := cnd_mem.mp h1
    refine ⟨List.mem_cons_of_mem _ i1, fun x hx hlt => ?_⟩
    rcases List.mem_cons.mp hx with rfl | hx
    · exact ⟨q, List.mem_cons_of_mem _ List.mem_cons_self, g2, g3⟩
    · obtain ⟨y, y1, y2⟩ := i2 x hx hlt
      exact ⟨y, List.mem_cons_of_mem _ y1, y2⟩
theorem dns_of (h0 : 0 < s) (hs : Srt L) (hE : ∀ p ∈ L, p ≤ E) (hr : reach s 0 L = E + s) : Dns L s E ∧ 0 ∈ L := by
  obtain ⟨c, rfl, w⟩ := (reach_zero h0 hs (fun x hx => ⟨hx, hE x hx⟩)).mp hr
  obtain ⟨i1, i2⟩ := way_in w
  exact ⟨⟨hs, h0, i1, hE, i2⟩, List.mem_cons_self⟩
end
def sel : List Nat → Nat → List Nat
  | [], _ => []
  | a :: r, n => if n % 2 = 1 then a :: sel r (n / 2) else sel r (n / 2)
theorem sel_sub : ∀ (L : List Nat) (n : Nat), (sel L n).Sublist L
  | [], _ => List.Sublist.refl _
  | a :: r, n => by
    rw [sel]
    split
    · exact (sel_sub r (n / 2)).cons_cons a
    · exact (sel_sub r (n / 2)).cons a
theorem sel_all : ∀ {L S : List Nat}, S.Sublist L → ∃ n, n < 2 ^ L.length ∧ sel L n = S
  | [], S, h => ⟨0, by simp, by rw [List.sublist_nil.mp h]; rfl⟩
  | a :: r, S, h => by
    cases h with
    | cons _ h =>
      obtain ⟨n, h1, h2⟩ := sel_all h
      refine ⟨2 * n, by rw [List.length_cons, Nat.pow_succ]; omega, ?_⟩
      rw [sel, if_neg (by omega), show 2 * n / 2 = n by omega, h2]
    | cons_cons _ h =>
      obtain ⟨n, h1, h2⟩ := sel_all h
      refine ⟨2 * n + 1, by rw [List.length_cons, Nat.pow_succ]; omega, ?_⟩
      rw [sel, if_pos (by omega), show (2 * n + 1) / 2 = n by omega, h2]
end Ov
namespace Ov
open PySem (Str PyData)
open MV
end Ov
namespace Ov
open PySem (Str PyData)
open MV
end Ov
namespace Ov
open PySem (Str PyData)
open MV
end Ov
namespace Ov
open PySem (Str PyData)
open MV
end Ov
namespace Ov
open PySem (Str PyData)
open MV
end Ov
namespace Ov
open PySem (Str PyData)
open MV
end Ov
namespace Ov
open PySem (Str PyData)
open MV
end Ov
namespace Ov
open PySem (Str PyData)
open MV
end Ov
namespace Ov
open PySem (Str PyData)
open MV
end Ov
namespace Ov
open PySem (Str PyData)
open MV
end Ov
namespace Ov
open PySem (Str PyData)
open MV
end Ov
namespace Ov
open PySem (Str PyData)
open MV
end Ov
namespace Ov
open PySem (Str PyData)
open MV
section
variable {t w : List Str}
end
end Ov
namespace Ov
open PySem (Str PyData)
open MV
theorem gSum_dN (l : List Nat) : gSum [dN l] = some (.int ((l.sum : Nat) : Int)) := by
  rw [dN_dI, gSum_dI]
  congr 2
  induction l with
  | nil => rfl
  | cons a r ih => rw [List.map_cons, List.sum_cons, List.sum_cons, ih]; simp
def gI (g : Nat → Nat) (q : Nat) : D := .int ((g q : Nat) : Int)
section
variable {t w : List Str}
theorem hm_row {ks : List Nat} {g : Nat → Nat} (hl : ks.length ≤ 1001) {p : Nat} (hp : p ∉ ks) {x4 : Option D} :
    ∃ y4, B_how_many_layings_v2_l1 [some (dT t), some (dT w), some (.dic (kvG (gI g) ks)), some (.int (p : Int)), x4, none] = .ok .nx [some (dT t), some (dT w), some (.dic (kvG (gI g) ks ++ [(Sum.inl (p : Int), .int ((((ks.filter fun q => decide (p ≤ q + w.length)).map g).sum + (if p = 0 then 1 else 0) : Nat) : Int))])), some (.int (p : Int)), y4, none] := by
  have kl : (kvG (gI g) ks).length < LIM := by rw [kvG_len]; show _ < 100000; omega
  have d1 : ∀ d : D, dPut (.dic (kvG (gI g) ks)) (.int (p : Int)) d = some (.dic (kvG (gI g) ks ++ [(Sum.inl (p : Int), d)])) := fun d => by
    show (if (kvG (gI g) ks).length < LIM then some (D.dic (dput (kvG (gI g) ks) (Sum.inl (p : Int)) d)) else none) = _
    rw [if_pos kl, dput_new hp]
  have km : (kvG (gI g) ks).map (fun kv => kD kv.1) = ks.map fun k : Nat => D.int (k : Int) := by
    unfold kvG
    rw [List.map_map]; rfl
  have sc : ((kvG (gI g) ks).map (·.2)).all D.sc = true := by
    unfold kvG
    rw [List.map_map, List.all_map, List.all_eq_true]
    intro z _; rfl
  have dv : ∀ q ∈ ks, dval (kvG (gI g) ks) (Sum.inl (q : Int)) = some (.int ((g q : Nat) : Int)) := fun q hq => by
    rw [dval_G, if_pos hq]; rfl
  generalize kvG (gI g) ks = KV at d1 km sc dv
  have lc := lc_nat (is := [5]) (tg := tgN 5) (t := tB (e2 gGe (e2 gAdd (eV 5) (eN gLen (aCons (eV 1) aNil))) (eV 3))) (fe := eDIxQ 2 (eV 5)) (e := [some (dT t), some (dT w), some (.dic KV), some (.int (p : Int)), x4, none]) (fun q => decide (p ≤ q + w.length)) (fun q => .int ((g q : Nat) : Int)) ks (by show _ ≤ 100000; omega)
    (fun q hq => by
      refine ⟨_, [some (dT t), some (dT w), some (.dic KV), some (.int (p : Int)), x4, some (.int (q : Int))], rfl, ?_, fun _ => ⟨[some (dT t), some (dT w), some (.dic KV), some (.int (p : Int)), x4, some (.int (q : Int))], ?_, rfl⟩, fun _ => rfl⟩
      · have e : decide ((p : Int) ≤ (q : Int) + (w.length : Int)) = decide (p ≤ q + w.length) := by
          rw [Bool.eq_iff_iff, decide_eq_true_iff, decide_eq_true_iff]; omega
        rw [← e]
        simp
      · have := dv q hq
        unfold eDIxQ dicK
        simp [this, bnd])
  have em : (ks.filter fun q => decide (p ≤ q + w.length)).map (fun q => D.int ((g q : Nat) : Int)) = ((ks.filter fun q => decide (p ≤ q + w.length)).map g).map fun k : Nat => D.int (k : Int) := by rw [List.map_map]; rfl
  rw [em] at lc
  have lk : eLock 2 (eLc [5] (iKQ 2) (tgN 5) (tB (e2 gGe (e2 gAdd (eV 5) (eN gLen (aCons (eV 1) aNil))) (eV 3))) (eDIxQ 2 (eV 5))) [some (dT t), some (dT w), some (.dic KV), some (.int (p : Int)), x4, none] = .ok (dN ((ks.filter fun q => decide (p ≤ q + w.length)).map g)) [some (dT t), some (dT w), some (.dic KV), some (.int (p : Int)), x4, none] := by
    refine r_eLock (kvs := KV) rfl sc ?_
    have ik : iKQ 2 [some (dT t), some (dT w), some (.dic KV), some (.int (p : Int)), x4, none] = .ok (ks.map fun k : Nat => D.int (k : Int)) [some (dT t), some (dT w), some (.dic KV), some (.int (p : Int)), x4, none] := by
      show Res.ok (KV.map fun kv => kD kv.1) _ = _
      rw [km]
    simp [ik, lc]
  have gs := gSum_dN ((ks.filter fun q => decide (p ≤ q + w.length)).map g)
  refine ⟨some (dN ((ks.filter fun q => decide (p ≤ q + w.length)).map g)), ?_⟩
  generalize ((ks.filter fun q => decide (p ≤ q + w.length)).map g).sum = SM at gs
  generalize dN ((ks.filter fun q => decide (p ≤ q + w.length)).map g) = DN at lk gs
  by_cases c : p = 0
  · subst c
    have lk : eLock 2 _ [_, _, _, some (.int 0), _, _] = Res.ok DN [_, _, _, some (.int 0), _, _] := lk
    have d1 : ∀ d : D, dPut (.dic KV) (.int 0) d = some (.dic (KV ++ [(Sum.inl (0 : Int), d)])) := d1
    simp [B_how_many_layings_v2_l1, ↓lk, gs, d1]
  · have c' : ¬ (p : Int) = 0 := by omega
    simp [B_how_many_layings_v2_l1, ↓lk, gs, c, c', d1]
def Cnt (L : List Nat) (s : Nat) (g : Nat → Nat) (ks : List Nat) : Prop := ∀ p ∈ ks, g p = ((L.filter fun q => decide (q < p) && decide (p ≤ q + s)).map g).sum + if p = 0 then 1 else 0
theorem take_lt : ∀ {l : List Nat} {i : Nat} (hi : i < l.length), l.Pairwise (· < ·) → l.take i = l.filter fun q => decide (q < l[i])
  | a :: r, 0, _, h => by
    obtain ⟨h1, h2⟩ := List.pairwise_cons.mp h
    symm
    rw [List.take_zero, List.filter_eq_nil_iff]
    intro x hx hd
    rw [decide_eq_true_iff, List.getElem_cons_zero] at hd
    rcases List.mem_cons.mp hx with rfl | hx
    · omega
    · have := h1 x hx; omega
  | a :: r, i + 1, hi, h => by
    obtain ⟨h1, h2⟩ := List.pairwise_cons.mp h
    have hi' : i < r.length := by simpa using hi
    have ih := take_lt hi' h2
    have := h1 r[i] (List.getElem_mem hi')
    rw [List.take_succ_cons, List.filter_cons, List.getElem_cons_succ, if_pos (decide_eq_true this), ih]
theorem hml_val (ht : Tx t) (hw : Tx w) (t0 : t ≠ []) (w0 : w ≠ []) (hl : t.length ≤ 1000) (hl2 : w.length ≤ 1000) : ∃ g : Nat → Nat, Cnt (lies t w) w.length g (lies t w) ∧ F_how_many_layings_v2 [dT t, dT w] = .ok (.int ((if t.length - w.length ∈ lies t w then g (t.length - w.length) else 0 : Nat) : Int)) (dT t) := by
  have nb := need_both_val ht hw t0 w0 hl hl2
  have lv := lies_at_val ht hw w0 hl hl2
  have ll : (lies t w).length ≤ 1001 := by
    unfold lies
    refine Nat.le_trans (List.length_filter_le _ _) ?_
    rw [List.length_range]; omega
  have so := srt_lies t w
  have le : ∀ q ∈ lies t w, q + w.length ≤ t.length := fun q hq => lies_lt hq
  generalize hL : lies t w = L at lv ll so le
  obtain ⟨e', h1, g, y3, y4, rfl, hg⟩ := for_inv (tg := tgN 3) (b := B_how_many_layings_v2_l1) (ds := L.map fun k : Nat => D.int (k : Int)) (e := [some (dT t), some (dT w), some (.dic []), none, none, none])
    (fun i e => ∃ (g : Nat → Nat) (y3 y4 : Option D), e = [some (dT t), some (dT w), some (.dic (kvG (gI g) (L.take i))), y3, y4, none] ∧ Cnt L w.length g (L.take i))
    ⟨fun _ => 0, none, none, rfl, fun q h => by cases h⟩
    (fun i d e hd hi => by
      obtain ⟨g, y3, y4, rfl, hg⟩ := hi
      rw [List.getElem?_map] at hd
      have hil : i < L.length := by
        by_cases z : i < L.length
        · exact z
        · rw [List.getElem?_eq_none (by omega)] at hd; cases hd
      rw [List.getElem?_eq_getElem hil] at hd
      cases hd
      have tk := take_lt hil so
      have pn : L[i] ∉ L.take i := fun h => by
        rw [tk] at h
        have := of_decide_eq_true (List.mem_filter.mp h).2
        omega
      obtain ⟨z4, gr⟩ := hm_row (t := t) (w := w) (ks := L.take i) (g := g) (by rw [List.length_take]; omega) pn (x4 := y4)
      have ff : (L.take i).filter (fun q => decide (L[i] ≤ q + w.length)) = L.filter fun q => decide (q < L[i]) && decide (L[i] ≤ q + w.length) := by
        rw [tk, List.filter_filter]
        refine List.filter_congr fun x _ => ?_
        rw [Bool.and_comm]
      let v := ((L.filter fun q => decide (q < L[i]) && decide (L[i] ≤ q + w.length)).map g).sum + if L[i] = 0 then 1 else 0
      have agree : ∀ q, q ∈ L.take i → (if q = L[i] then v else g q) = g q := fun q hq => if_neg (fun (e : q = L[i]) => pn (by rw [← e]; exact hq))
      have sums : ∀ p, p ≤ L[i] → ((L.filter fun q => decide (q < p) && decide (p ≤ q + w.length)).map fun x => if x = L[i] then v else g x) = (L.filter fun q => decide (q < p) && decide (p ≤ q + w.length)).map g := fun p hp => by
        refine List.map_congr_left fun q hq => ?_
        have h2 := (List.mem_filter.mp hq).2
        rw [Bool.and_eq_true, decide_eq_true_iff] at h2
        exact if_neg (by omega)
      refine ⟨_, _, .nx, rfl, gr, .inl rfl, fun x => if x = L[i] then v else g x, some (.int ((L[i] : Nat) : Int)), z4, ?_, fun p hp => ?_⟩
      · have e1 : kvG (gI fun x => if x = L[i] then v else g x) (L.take i) = kvG (gI g) (L.take i) := by
          unfold kvG
          refine List.map_congr_left fun a ha => ?_
          unfold gI
          simp only [agree a ha]
        have e2 : gI (fun x => if x = L[i] then v else g x) L[i] = .int ((v : Nat) : Int) := by unfold gI; simp only [if_pos]
        rw [List.take_succ_eq_append_getElem hil, ← kvG_snoc, e1, e2, ff]
      · rw [List.take_succ_eq_append_getElem hil, List.mem_append, List.mem_singleton] at hp
        rcases hp with hp | rfl
        · show (if p = L[i] then v else g p) = _
          have hlt : p ≤ L[i] := by
            rw [tk] at hp
            have := of_decide_eq_true (List.mem_filter.mp hp).2
            omega
          rw [agree p hp, sums p hlt]
          exact hg p hp
        · show (if L[i] = L[i] then v else g L[i]) = _
          rw [if_pos rfl, sums _ (Nat.le_refl _)])
  rw [List.length_map, List.take_length] at h1 hg
  refine ⟨g, hg, ?_⟩
  have g0 : ∀ a b : Option D, eDGet2 (eV 2) (e2 gSub (eN gLen (aCons (eV 0) aNil)) (eN gLen (aCons (eV 1) aNil))) (eC (.int 0)) [some (dT t), some (dT w), some (.dic (kvG (gI g) L)), a, b, none] = .ok (.int ((if t.length - w.length ∈ L then g (t.length - w.length) else 0 : Nat) : Int)) [some (dT t), some (dT w), some (.dic (kvG (gI g) L)), a, b, none] := by
    intro a b
    by_cases c : w.length ≤ t.length
    · have e : (t.length : Int) - (w.length : Int) = ((t.length - w.length : Nat) : Int) := by omega
      have dv := dval_G (f := gI g) (k := t.length - w.length) (ks := L)
      rw [← e] at dv
      by_cases m : t.length - w.length ∈ L
      · rw [if_pos m] at dv ⊢
        generalize kvG (gI g) L = KV at dv
        have dv : dval KV (Sum.inl ((t.length : Int) - (w.length : Int))) = some (.int ((g (t.length - w.length) : Nat) : Int)) := dv
        simp [dv]
      · rw [if_neg m] at dv ⊢
        generalize kvG (gI g) L = KV at dv
        simp [dv]
    · have nil : L = [] := by
        cases hl' : L with
        | nil => rfl
        | cons x r => rw [hl'] at le; have := le x List.mem_cons_self; omega
      rw [nil]
      simp [kvG, dval]
  simp only [F_how_many_layings_v2, r_runF, B_how_many_layings_v2]
  generalize hKV : kvG (gI g) L = KV at h1 g0
  simp [nb, lv, h1, ↓g0]
end
end Ov
namespace Ov
open PySem (Str PyData)
open MV
theorem cov_iff {t : List Str} {s : Nat} (h1 : 1 ≤ s) (h2 : s ≤ t.length) : cov t s = true ↔ Cvr t s t.length := by
  rw [← rch_iff h1 h2 (Nat.le_refl _)]
  unfold cov rch
  rw [decide_eq_true_eq, List.filter_eq_self.mpr]
  intro p hp
  have := lies_lt hp
  rw [List.length_take] at this
  rw [decide_eq_true_eq]; omega
theorem covs_iff {t : List Str} {s : Nat} : s ∈ covs t ↔ 1 ≤ s ∧ s ≤ t.length ∧ Cvr t s t.length := by
  unfold covs
  rw [List.mem_filter, List.mem_range'_1]
  constructor
  · rintro ⟨h, c⟩
    exact ⟨h.1, by omega, (cov_iff h.1 (by omega)).mp c⟩
  · rintro ⟨h1, h2, c⟩
    exact ⟨⟨h1, by omega⟩, (cov_iff h1 h2).mpr c⟩
theorem covs_srt (t : List Str) : Srt (covs t) := srt_filter _ (srt_range' _ _)
theorem Cvr.pre {t w : List Str} {s e : Nat} (hw : ∀ i, i < e → t[i]? = w[i]?) (he : e ≤ w.length) (ht : e ≤ t.length) (h : Cvr w s e) : Cvr t s e := by
  obtain ⟨h1, h2, h3, h4⟩ := h
  refine ⟨h1, h2, ht, fun i hi => ?_⟩
  obtain ⟨p, q1, q2, q3, q4⟩ := h4 i hi
  refine ⟨p, q1, q2, q3, fun j hj => ?_⟩
  rw [hw _ (by omega), hw _ (by omega)]
  exact q4 j hj
section
variable {w : List Str} {ds : List Nat}
end
def Gl (w : Nat) : Nat → List Nat → Prop
  | _, [] => True
  | r, p :: L => p ≤ r ∧ Gl w (p + w) L
section
variable {t w : List Str} {x : Str} {a : Nat}
end
end Ov
namespace Ov
def sm (L : List Nat) (f : Nat → Nat) : Nat := (L.map f).sum
theorem sm_cons (a : Nat) (L : List Nat) (f : Nat → Nat) : sm (a :: L) f = f a + sm L f := rfl
theorem sm_nil (f : Nat → Nat) : sm [] f = 0 := rfl
theorem sm_congr {L : List Nat} {f g : Nat → Nat} (h : ∀ x ∈ L, f x = g x) : sm L f = sm L g := by unfold sm; rw [List.map_congr_left h]
theorem sm_add : ∀ (L : List Nat) (f g : Nat → Nat), sm L (fun x => f x + g x) = sm L f + sm L g
  | [], _, _ => rfl
  | a :: L, f, g => by rw [sm_cons, sm_cons, sm_cons, sm_add L f g]; omega
theorem sm_zero : ∀ (L : List Nat), sm L (fun _ => 0) = 0
  | [] => rfl
  | a :: L => by rw [sm_cons, sm_zero L]
theorem sm_mul : ∀ (L : List Nat) (c : Nat) (f : Nat → Nat), sm L (fun x => c * f x) = c * sm L f
  | [], c, _ => by rw [sm_nil, sm_nil]; rfl
  | a :: L, c, f => by rw [sm_cons, sm_cons, sm_mul L c f, Nat.mul_add]
theorem sm_swap : ∀ (L M : List Nat) (h : Nat → Nat → Nat), sm L (fun p => sm M fun q => h p q) = sm M fun q => sm L fun p => h p q
  | [], M, h => by rw [sm_nil]; exact (sm_zero M).symm
  | a :: L, M, h => by rw [sm_cons, sm_swap L M h, ← sm_add]; rfl
theorem sm_filter : ∀ (L : List Nat) (P : Nat → Bool) (f : Nat → Nat), ((L.filter P).map f).sum = sm L fun x => if P x then f x else 0
  | [], _, _ => rfl
  | a :: L, P, f => by
    rw [List.filter_cons, sm_cons]
    by_cases c : P a = true
    · rw [if_pos c, List.map_cons, List.sum_cons, sm_filter L P f, if_pos c]
    · rw [if_neg c, sm_filter L P f, if_neg c, Nat.zero_add]
theorem sm_one : ∀ {L : List Nat} (e : Nat) (f : Nat → Nat), Srt L → sm L (fun x => if x = e then f x else 0) = if e ∈ L then f e else 0
  | [], e, f, _ => rfl
  | a :: L, e, f, h => by
    obtain ⟨h1, h2⟩ := List.pairwise_cons.mp h
    rw [sm_cons, sm_one e f h2]
    by_cases c : a = e
    · subst c
      rw [if_pos rfl, if_neg (fun m => by have := h1 a m; omega), if_pos List.mem_cons_self]; rfl
    · have c' : ¬ e = a := fun z => c z.symm
      rw [if_neg c, Nat.zero_add]
      simp [c']
section
variable {L : List Nat} {s E : Nat} {g b : Nat → Nat}
def Bck (L : List Nat) (s E : Nat) (b : Nat → Nat) (ks : List Nat) : Prop := ∀ p ∈ ks, b p = ((cnd L s p).map b).sum + if p = E then 1 else 0
theorem both_ways (hs : Srt L) (hg : Cnt L s g L) (hb : Bck L s E b L) : (if E ∈ L then g E else 0) = if 0 ∈ L then b 0 else 0 := by
  have e1 : sm L (fun p => g p * b p) = sm L (fun p => sm L fun q => if (decide (p < q) && decide (q ≤ p + s)) = true then g p * b q else 0) + if E ∈ L then g E else 0 := by
    rw [← sm_one E g hs, ← sm_add]
    refine sm_congr fun p hp => ?_
    rw [hb p hp]
    unfold cnd
    rw [sm_filter, Nat.mul_add, ← sm_mul]
    congr 1
    · refine sm_congr fun q _ => ?_
      split <;> simp
    · split <;> simp
  have e2 : sm L (fun q => g q * b q) = sm L (fun q => sm L fun p => if (decide (p < q) && decide (q ≤ p + s)) = true then g p * b q else 0) + if 0 ∈ L then b 0 else 0 := by
    rw [← sm_one 0 b hs, ← sm_add]
    refine sm_congr fun q hq => ?_
    rw [hg q hq, sm_filter, Nat.add_mul]
    congr 1
    · rw [Nat.mul_comm, ← sm_mul]
      refine sm_congr fun p _ => ?_
      split
      · rw [Nat.mul_comm]
      · simp
    · split <;> simp
  rw [sm_swap] at e1
  rw [e1] at e2
  omega
end
def sR (n : Nat) (f : Nat → Nat) : Nat := sm (List.range n) f
theorem sR_succ (n : Nat) (f : Nat → Nat) : sR (n + 1) f = sR n f + f n := by
  unfold sR sm
  rw [List.range_succ, List.map_append, List.sum_append]
  simp
theorem sR_double (f : Nat → Nat) : ∀ n, sR (2 * n) f = sR n (fun j => f (2 * j)) + sR n (fun j => f (2 * j + 1))
  | 0 => rfl
  | n + 1 => by
    rw [show 2 * (n + 1) = 2 * n + 1 + 1 by omega, sR_succ, sR_succ, sR_double f n, sR_succ, sR_succ]
    omega
theorem sR_congr {n : Nat} {f g : Nat → Nat} (h : ∀ x, x < n → f x = g x) : sR n f = sR n g := sm_congr fun x hx => h x (List.mem_range.mp hx)
theorem sR_zero (n : Nat) : sR n (fun _ => 0) = 0 := sm_zero _
theorem sel_even (a : Nat) (M : List Nat) (m : Nat) : sel (a :: M) (2 * m) = sel M m := by
  rw [sel, if_neg (by omega), show 2 * m / 2 = m by omega]
theorem sel_odd (a : Nat) (M : List Nat) (m : Nat) : sel (a :: M) (2 * m + 1) = a :: sel M m := by
  rw [sel, if_pos (by omega), show (2 * m + 1) / 2 = m by omega]
open Classical in
noncomputable def cW (L : List Nat) (s E p : Nat) (M : List Nat) : Nat := sR (2 ^ M.length) fun m => if Way L s E p (sel M m) then 1 else 0
section
open Classical
variable {L : List Nat} {s E : Nat} {b : Nat → Nat}
theorem cW_nil (p : Nat) : cW L s E p [] = if p = E then 1 else 0 := by
  unfold cW
  rw [List.length_nil, Nat.pow_zero, sR_succ]
  show 0 + _ = _
  rw [Nat.zero_add]
  have e : Way L s E p (sel [] 0) ↔ p = E := Iff.rfl
  by_cases q : p = E
  · rw [if_pos q, if_pos (e.mpr q)]
  · rw [if_neg q, if_neg (fun h => q (e.mp h))]
theorem cW_cons (p a : Nat) (M : List Nat) (ha : a ∈ L) (hp : p < a) : cW L s E p (a :: M) = cW L s E p M + if a ≤ p + s then cW L s E a M else 0 := by
  unfold cW
  rw [List.length_cons, Nat.pow_succ, Nat.mul_comm, sR_double]
  congr 1
  · refine sR_congr fun m _ => ?_
    rw [sel_even]
  · by_cases c : a ≤ p + s
    · rw [if_pos c]
      refine sR_congr fun m _ => ?_
      rw [sel_odd]
      have e : Way L s E p (a :: sel M m) ↔ Way L s E a (sel M m) := ⟨fun h => h.2, fun h => ⟨cnd_mem.mpr ⟨ha, hp, c⟩, h⟩⟩
      by_cases q : Way L s E a (sel M m)
      · rw [if_pos q, if_pos (e.mpr q)]
      · rw [if_neg q, if_neg (fun h => q (e.mp h))]
    · rw [if_neg c]
      refine (sR_congr fun m _ => ?_).trans (sR_zero _)
      rw [sel_odd, if_neg (fun h => c (cnd_mem.mp h.1).2.2)]
theorem cW_val (hb : Bck L s E b L) : ∀ (M : List Nat) (p : Nat), Srt M → (∀ q, q ∈ M → q ∈ L) → (∀ q ∈ M, p < q) → (∀ a, a ∈ M → L.filter (fun q => decide (a < q)) = M.filter fun q => decide (a < q)) → cW L s E p M = (sm M fun q => if q ≤ p + s then b q else 0) + if p = E then 1 else 0
  | [], p, _, _, _, _ => by rw [cW_nil]; simp [sm_nil]
  | a :: M, p, hs, hM, hp, hu => by
    obtain ⟨h1, h2⟩ := List.pairwise_cons.mp hs
    have haL := hM a List.mem_cons_self
    have hpa := hp a List.mem_cons_self
    have fa : L.filter (fun q => decide (a < q)) = M := by
      rw [hu a List.mem_cons_self, List.filter_cons, if_neg (by simp)]
      exact List.filter_eq_self.mpr fun x hx => decide_eq_true (h1 x hx)
    have hu' : ∀ c, c ∈ M → L.filter (fun q => decide (c < q)) = M.filter fun q => decide (c < q) := fun c hc => by
      rw [hu c (List.mem_cons_of_mem _ hc), List.filter_cons, if_neg (by have := h1 c hc; simp; omega)]
    have i1 := cW_val hb M p h2 (fun q hq => hM q (List.mem_cons_of_mem _ hq)) (fun q hq => hp q (List.mem_cons_of_mem _ hq)) hu'
    have i2 := cW_val hb M a h2 (fun q hq => hM q (List.mem_cons_of_mem _ hq)) h1 hu'
    have ba : b a = (sm M fun q => if q ≤ a + s then b q else 0) + if a = E then 1 else 0 := by
      rw [hb a haL]
      congr 1
      unfold cnd
      have : (L.filter fun q => decide (a < q) && decide (q ≤ a + s)) = M.filter fun q => decide (q ≤ a + s) := by
        rw [← fa, List.filter_filter]
        exact List.filter_congr fun x _ => by rw [Bool.and_comm]
      rw [this, sm_filter]
      exact sm_congr fun x _ => by simp
    rw [cW_cons p a M haL hpa, i1, i2, ← ba, sm_cons]
    omega
end
section
open Classical
variable {L : List Nat} {s E : Nat} {b : Nat → Nat}
theorem sets_count (h0 : 0 < s) (hs : Srt L) (hE : ∀ p ∈ L, p ≤ E) (hb : Bck L s E b L) : sR (2 ^ L.length) (fun m => if reach s 0 (sel L m) = E + s then 1 else 0) = if 0 ∈ L then b 0 else 0 := by
  have key : ∀ m, reach s 0 (sel L m) = E + s ↔ ∃ c, sel L m = 0 :: c ∧ Way L s E 0 c := fun m => by
    have sub := sel_sub L m
    exact reach_zero h0 (hs.sublist sub) (fun x hx => ⟨sub.subset hx, hE x (sub.subset hx)⟩)
  cases L with
  | nil =>
    rw [if_neg (by simp)]
    refine (sR_congr fun m _ => ?_).trans (sR_zero _)
    rw [if_neg]
    rw [key]
    rintro ⟨c, h, _⟩
    cases h
  | cons a M =>
    obtain ⟨h1, h2⟩ := List.pairwise_cons.mp hs
    by_cases c0 : a = 0
    · subst c0
      rw [if_pos List.mem_cons_self, List.length_cons, Nat.pow_succ, Nat.mul_comm, sR_double]
      have z1 : sR (2 ^ M.length) (fun j => if reach s 0 (sel (0 :: M) (2 * j)) = E + s then 1 else 0) = 0 := by
        refine (sR_congr fun m _ => ?_).trans (sR_zero _)
        rw [if_neg]
        rw [key]
        rintro ⟨c, h, _⟩
        rw [sel_even] at h
        have : (0 : Nat) ∈ M := (sel_sub M _).subset (by rw [h]; exact List.mem_cons_self)
        have := h1 0 this
        omega
      have z2 : sR (2 ^ M.length) (fun j => if reach s 0 (sel (0 :: M) (2 * j + 1)) = E + s then 1 else 0) = cW (0 :: M) s E 0 M := by
        refine sR_congr fun m _ => ?_
        have e : sel (0 :: M) (2 * m + 1) = 0 :: sel M m := sel_odd 0 M m
        have k2 := key (2 * m + 1)
        rw [e] at k2 ⊢
        by_cases q : Way (0 :: M) s E 0 (sel M m)
        · rw [if_pos q, if_pos (k2.mpr ⟨_, rfl, q⟩)]
        · rw [if_neg q, if_neg (fun h => by obtain ⟨c, hc, hw⟩ := k2.mp h; cases hc; exact q hw)]
      have fM : ∀ c, c ∈ M → (0 :: M).filter (fun q => decide (c < q)) = M.filter fun q => decide (c < q) := fun c hc => by
        rw [List.filter_cons, if_neg (by simp)]
      rw [z1, z2, cW_val hb M 0 h2 (fun q hq => List.mem_cons_of_mem _ hq) h1 fM, Nat.zero_add, hb 0 List.mem_cons_self]
      congr 1
      unfold cnd
      rw [sm_filter, sm_cons]
      have : ¬ ((decide (0 < 0) && decide (0 ≤ 0 + s)) = true) := by simp
      rw [if_neg this]
      rw [Nat.zero_add]
      rw [Nat.zero_add]
      refine sm_congr fun x hx => ?_
      have := h1 x hx
      simp [this]
    · rw [if_neg (fun h => by
        rcases List.mem_cons.mp h with h | h
        · exact c0 h.symm
        · have := h1 0 h; omega)]
      refine (sR_congr fun m _ => ?_).trans (sR_zero _)
      rw [if_neg]
      rw [key]
      rintro ⟨c, h, _⟩
      have : (0 : Nat) ∈ a :: M := (sel_sub (a :: M) m).subset (by rw [h]; exact List.mem_cons_self)
      rcases List.mem_cons.mp this with h | h
      · exact c0 h.symm
      · have := h1 0 h; omega
end
end Ov
namespace Ov
open PySem (Str PyData)
open MV
section
variable {t w : List Str}
theorem due6_row {L ks : List Nat} {g : Nat → Nat} (hL : L.length ≤ 1001) (hl : ks.length ≤ 1001) {p : Nat} (hk : ∀ q, q ∈ ks ↔ q ∈ L ∧ p < q) (hpe : p + w.length ≤ t.length) {x5 : Option D} :
    ∃ y5, B__law_due_v6_l1 [some (dT t), some (dT w), some (dN L), some (.dic (kvG (gI g) ks)), some (.int (p : Int)), x5, none] = .ok .nx [some (dT t), some (dT w), some (dN L), some (.dic (kvG (gI g) ks ++ [(Sum.inl (p : Int), .int ((((cnd L w.length p).map g).sum + (if p = t.length - w.length then 1 else 0) : Nat) : Int))])), some (.int (p : Int)), y5, none] := by
  have hp : p ∉ ks := fun h => by have := (hk p).mp h; omega
  have kl : (kvG (gI g) ks).length < LIM := by rw [kvG_len]; show _ < 100000; omega
  have d1 : ∀ d : D, dPut (.dic (kvG (gI g) ks)) (.int (p : Int)) d = some (.dic (kvG (gI g) ks ++ [(Sum.inl (p : Int), d)])) := fun d => by
    show (if (kvG (gI g) ks).length < LIM then some (D.dic (dput (kvG (gI g) ks) (Sum.inl (p : Int)) d)) else none) = _
    rw [if_pos kl, dput_new hp]
  have gx : ∀ q ∈ ks, gDIx (.dic (kvG (gI g) ks)) (.int (q : Int)) = some (.int ((g q : Nat) : Int)) := fun q hq => gDIx_G (f := gI g) hq
  generalize kvG (gI g) ks = KV at d1 gx
  have lc := lc_nat (is := [6]) (tg := tgN 6) (t := tB (eChain gLt gLe (eV 4) (eV 6) (e2 gAdd (eV 4) (eN gLen (aCons (eV 1) aNil))))) (fe := eS (e2 gDIx (eV 3) (eS (eV 6)))) (e := [some (dT t), some (dT w), some (dN L), some (.dic KV), some (.int (p : Int)), x5, none]) (fun q => decide (p < q) && decide (q ≤ p + w.length)) (fun q => .int ((g q : Nat) : Int)) L (by show _ ≤ 100000; omega)
    (fun q hq => by
      refine ⟨_, [some (dT t), some (dT w), some (dN L), some (.dic KV), some (.int (p : Int)), x5, some (.int (q : Int))], rfl, ?_, fun h => ⟨[some (dT t), some (dT w), some (dN L), some (.dic KV), some (.int (p : Int)), x5, some (.int (q : Int))], ?_, rfl⟩, fun _ => rfl⟩
      · by_cases c1 : p < q
        · by_cases c2 : q ≤ p + w.length
          · have c2' : (q : Int) ≤ (p : Int) + (w.length : Int) := by omega
            rw [decide_eq_true c1, decide_eq_true c2]
            simp [c1, c2']
          · have c2' : ¬ (q : Int) ≤ (p : Int) + (w.length : Int) := by omega
            rw [decide_eq_true c1, decide_eq_false c2]
            simp [c1, c2']
        · rw [decide_eq_false c1]
          simp [c1]
      · rw [Bool.and_eq_true, decide_eq_true_iff] at h
        have := gx q ((hk q).mpr ⟨hq, h.1⟩)
        simp [this])
  have lc : lcGo [6] (tgN 6) (tB (eChain gLt gLe (eV 4) (eV 6) (e2 gAdd (eV 4) (eN gLen (aCons (eV 1) aNil))))) (eS (e2 gDIx (eV 3) (eS (eV 6)))) (L.map fun k : Nat => D.int (k : Int)) [] [some (dT t), some (dT w), some (dN L), some (.dic KV), some (.int (p : Int)), x5, none] = .ok (((cnd L w.length p).map g).map fun k : Nat => D.int (k : Int)) [some (dT t), some (dT w), some (dN L), some (.dic KV), some (.int (p : Int)), x5, none] := by
    rw [List.map_map]; exact lc
  have gs := gSum_dN ((cnd L w.length p).map g)
  refine ⟨some (dN ((cnd L w.length p).map g)), ?_⟩
  have gs : gSum [.lst (((cnd L w.length p).map g).map fun k : Nat => D.int (k : Int))] = _ := gs
  have ed : dN ((cnd L w.length p).map g) = .lst (((cnd L w.length p).map g).map fun k : Nat => D.int (k : Int)) := rfl
  rw [ed]
  generalize ((cnd L w.length p).map g).sum = SM at gs
  generalize (((cnd L w.length p).map g).map fun k : Nat => D.int (k : Int)) = DN at lc gs
  by_cases c : p = t.length - w.length
  · have c' : (p : Int) + (w.length : Int) = (t.length : Int) := by omega
    rw [if_pos c]
    simp [B__law_due_v6_l1, lc, gs, c', d1]
  · have c' : ¬ (p : Int) + (w.length : Int) = (t.length : Int) := by omega
    rw [if_neg c]
    simp [B__law_due_v6_l1, lc, gs, c', d1]
theorem due6_val (hl : t.length ≤ 900) (hl2 : w.length ≤ 900) : ∃ b : Nat → Nat, Bck (lies t w) w.length (t.length - w.length) b (lies t w) ∧ F__law_due_v6 [dT t, dT w] = .ok (.int ((if 0 ∈ lies t w then b 0 else 0 : Nat) : Int)) (dT t) := by
  have lv := law_lies_val (t := t) (w := w) hl (by omega)
  have ll : (lies t w).length ≤ 1001 := by
    unfold lies
    refine Nat.le_trans (List.length_filter_le _ _) ?_
    rw [List.length_range]; omega
  have so := srt_lies t w
  have le : ∀ q ∈ lies t w, q + w.length ≤ t.length := fun q hq => lies_lt hq
  generalize hL : lies t w = L at lv ll so le
  have pr : L.reverse.Pairwise (· > ·) := by rw [List.pairwise_reverse]; exact so
  obtain ⟨e', h1, g, y4, y5, rfl, hg⟩ := for_inv (tg := tgN 4) (b := B__law_due_v6_l1) (ds := L.reverse.map fun k : Nat => D.int (k : Int)) (e := [some (dT t), some (dT w), some (dN L), some (.dic []), none, none, none])
    (fun i e => ∃ (g : Nat → Nat) (y4 y5 : Option D), e = [some (dT t), some (dT w), some (dN L), some (.dic (kvG (gI g) (L.reverse.take i))), y4, y5, none] ∧ Bck L w.length (t.length - w.length) g (L.reverse.take i))
    ⟨fun _ => 0, none, none, rfl, fun q h => by cases h⟩
    (fun i d e hd hi => by
      obtain ⟨g, y4, y5, rfl, hg⟩ := hi
      rw [List.getElem?_map] at hd
      have hil : i < L.reverse.length := by
        by_cases z : i < L.reverse.length
        · exact z
        · rw [List.getElem?_eq_none (by omega)] at hd; cases hd
      rw [List.getElem?_eq_getElem hil] at hd
      cases hd
      have hp : L.reverse[i] ∈ L := List.mem_reverse.mp (List.getElem_mem hil)
      have hks : ∀ q, q ∈ L.reverse.take i ↔ q ∈ L ∧ L.reverse[i] < q := fun q => by rw [take_gt hil pr q, List.mem_reverse]
      generalize hpp : L.reverse[i] = p at hp hks
      have pn : p ∉ L.reverse.take i := fun h => by have := (hks _).mp h; omega
      obtain ⟨z5, gr⟩ := due6_row (t := t) (w := w) (L := L) (ks := L.reverse.take i) (g := g) ll (by rw [List.length_take, List.length_reverse]; omega) hks (le p hp) (x5 := y5)
      let v := ((cnd L w.length p).map g).sum + if p = t.length - w.length then 1 else 0
      have agree : ∀ q, q ∈ L.reverse.take i → (if q = p then v else g q) = g q := fun q hq => if_neg (fun (e : q = p) => pn (by rw [← e]; exact hq))
      have sums : ∀ q, p ≤ q → ((cnd L w.length q).map fun x => if x = p then v else g x) = (cnd L w.length q).map g := fun q hq => by
        refine List.map_congr_left fun x hx => ?_
        have := (cnd_mem.mp hx).2.1
        exact if_neg (by omega)
      refine ⟨_, _, .nx, rfl, gr, .inl rfl, fun x => if x = p then v else g x, some (.int (p : Int)), z5, ?_, fun q hq => ?_⟩
      · have e1 : kvG (gI fun x => if x = p then v else g x) (L.reverse.take i) = kvG (gI g) (L.reverse.take i) := by
          unfold kvG
          refine List.map_congr_left fun a ha => ?_
          unfold gI
          simp only [agree a ha]
        have e2 : gI (fun x => if x = p then v else g x) p = .int ((v : Nat) : Int) := by unfold gI; simp only [if_pos]
        rw [List.take_succ_eq_append_getElem hil, hpp, ← kvG_snoc, e1, e2]
      · rw [List.take_succ_eq_append_getElem hil, hpp, List.mem_append, List.mem_singleton] at hq
        rcases hq with hq | rfl
        · show (if q = p then v else g q) = _
          have hlt := (hks q).mp hq
          rw [agree q hq, sums q (by omega)]
          exact hg q hq
        · show (if q = q then v else g q) = _
          rw [if_pos rfl, sums _ (Nat.le_refl _)])
  rw [List.length_map, List.take_length] at h1 hg
  refine ⟨g, fun p hp => hg p (List.mem_reverse.mpr hp), ?_⟩
  have g0 : ∀ a b : Option D, eDGet2 (eV 3) (eC (.int 0)) (eC (.int 0)) [some (dT t), some (dT w), some (dN L), some (.dic (kvG (gI g) L.reverse)), a, b, none] = .ok (.int ((if 0 ∈ L then g 0 else 0 : Nat) : Int)) [some (dT t), some (dT w), some (dN L), some (.dic (kvG (gI g) L.reverse)), a, b, none] := by
    intro a b
    have dv := dval_G (f := gI g) (k := 0) (ks := L.reverse)
    by_cases m : 0 ∈ L
    · rw [if_pos (List.mem_reverse.mpr m)] at dv
      rw [if_pos m]
      have dv : dval (kvG (gI g) L.reverse) (Sum.inl (0 : Int)) = some (.int ((g 0 : Nat) : Int)) := dv
      generalize kvG (gI g) L.reverse = KV at dv
      simp [dv]
    · rw [if_neg (fun h => m (List.mem_reverse.mp h))] at dv
      rw [if_neg m]
      have dv : dval (kvG (gI g) L.reverse) (Sum.inl (0 : Int)) = none := dv
      generalize kvG (gI g) L.reverse = KV at dv
      simp [dv]
  have rv : (L.map fun k : Nat => D.int (k : Int)).reverse = L.reverse.map fun k : Nat => D.int (k : Int) := by rw [List.map_reverse]
  simp only [F__law_due_v6, r_runF, B__law_due_v6]
  generalize kvG (gI g) L.reverse = KV at h1 g0
  generalize L.reverse.map (fun k : Nat => D.int (k : Int)) = RL at h1 rv
  simp [lv, rv, h1, ↓g0, -List.map_reverse]
end
end Ov
namespace Ov
open PySem (Str PyData)
open MV
theorem way_srt {L : List Nat} {s E : Nat} : ∀ {c : List Nat} {p : Nat}, Way L s E p c → (∀ x ∈ c, p < x ∧ x ∈ L) ∧ Srt (p :: c)
  | [], p, _ => ⟨(fun x hx => by cases hx), List.pairwise_singleton _ _⟩
  | q :: r, p, h => by
    obtain ⟨h1, h2⟩ := h
    obtain ⟨a, b, c⟩ := cnd_mem.mp h1
    obtain ⟨i1, i2⟩ := way_srt h2
    have all : ∀ x ∈ q :: r, p < x ∧ x ∈ L := fun x hx => by
      rcases List.mem_cons.mp hx with rfl | hx
      · exact ⟨b, a⟩
      · have := i1 x hx
        exact ⟨by omega, this.2⟩
    exact ⟨all, List.pairwise_cons.mpr ⟨fun x hx => (all x hx).1, i2⟩⟩
theorem lay_iff {t w : List Str} {S : List Nat} : lay t w (S.map fun k : Nat => (k : Int)) = true ↔ Srt S ∧ (∀ x ∈ S, x ∈ lies t w) ∧ reach w.length 0 S = t.length := by
  have e : (S.map fun k : Nat => (k : Int)).map Int.toNat = S := by
    rw [List.map_map]
    conv => rhs; rw [← List.map_id S]
    exact List.map_congr_left fun x _ => Int.toNat_natCast x
  unfold lay
  rw [Bool.and_eq_true, Bool.and_eq_true, decide_eq_true_iff, decide_eq_true_iff, e, List.all_eq_true]
  constructor
  · rintro ⟨a, b, c⟩
    refine ⟨?_, fun x hx => ?_, c⟩
    · rw [List.pairwise_map] at a
      exact a.imp fun h => by omega
    · have := b (x : Int) (List.mem_map.mpr ⟨x, hx, rfl⟩)
      obtain ⟨k, hk, h⟩ := List.any_eq_true.mp this
      have h := of_decide_eq_true h
      have : k = x := by omega
      rw [← this]; exact hk
  · rintro ⟨a, b, c⟩
    refine ⟨?_, fun x hx => ?_, c⟩
    · rw [List.pairwise_map]
      exact a.imp fun h => by omega
    · obtain ⟨k, hk, rfl⟩ := List.mem_map.mp hx
      exact List.any_eq_true.mpr ⟨k, b k hk, decide_eq_true rfl⟩
section
variable {L : List Nat} {s E : Nat}
theorem few_reach (h0 : 0 < s) (hs : Srt L) (hE : ∀ p ∈ L, p ≤ E) (D : Dns L s E) (h00 : 0 ∈ L) : Srt (0 :: fl L s E 0) ∧ (∀ x ∈ 0 :: fl L s E 0, x ∈ L) ∧ reach s 0 (0 :: fl L s E 0) = E + s := by
  obtain ⟨w1, w2, w3⟩ := way_min D (E - 0) 0 rfl h00
  obtain ⟨a, b⟩ := way_srt w1
  have mem : ∀ x ∈ 0 :: fl L s E 0, x ∈ L := fun x hx => by
    rcases List.mem_cons.mp hx with rfl | hx
    · exact h00
    · exact (a x hx).2
  exact ⟨b, mem, (reach_zero h0 b fun x hx => ⟨mem x hx, hE x (mem x hx)⟩).mpr ⟨_, rfl, w1⟩⟩
theorem few_least' (h0 : 0 < s) (hs : Srt L) (hE : ∀ p ∈ L, p ≤ E) (D : Dns L s E) (h00 : 0 ∈ L) {S : List Nat} (h1 : Srt S) (h2 : ∀ x ∈ S, x ∈ L) (h3 : reach s 0 S = E + s) : (0 :: fl L s E 0).length ≤ S.length := by
  obtain ⟨w1, w2, w3⟩ := way_min D (E - 0) 0 rfl h00
  obtain ⟨c, rfl, hw⟩ := (reach_zero h0 h1 fun x hx => ⟨h2 x hx, hE x (h2 x hx)⟩).mp h3
  have := (w3 c hw).1
  rw [List.length_cons, List.length_cons, w2]; omega
theorem sel_full : ∀ {L : List Nat} {m : Nat}, m < 2 ^ L.length → sel L m = L → m = 2 ^ L.length - 1
  | [], m, h, _ => by
    have : m < 1 := h
    show m = 2 ^ 0 - 1
    omega
  | a :: r, m, h, e => by
    rw [List.length_cons, Nat.pow_succ] at h ⊢
    rw [sel] at e
    have pw : 0 < 2 ^ r.length := Nat.two_pow_pos _
    by_cases c : m % 2 = 1
    · rw [if_pos c] at e
      have e := (List.cons.inj e).2
      have := sel_full (L := r) (m := m / 2) (by omega) e
      omega
    · rw [if_neg c] at e
      have l1 := (sel_sub r (m / 2)).length_le
      rw [e, List.length_cons] at l1
      omega
theorem sm_le : ∀ (L : List Nat) (f g : Nat → Nat), (∀ x ∈ L, f x ≤ g x) → sm L f ≤ sm L g
  | [], _, _, _ => Nat.le_refl _
  | a :: r, f, g, h => by
    rw [sm_cons, sm_cons]
    have h1 := h a List.mem_cons_self
    have h2 := sm_le r f g fun x hx => h x (List.mem_cons_of_mem _ hx)
    omega
theorem sR_one (n e : Nat) (he : e < n) : sR n (fun x => if x = e then 1 else 0) = 1 := by
  have := sm_one (L := List.range n) e (fun _ => 1) (srt_range n)
  rw [if_pos (List.mem_range.mpr he)] at this
  exact this
def indS (L : List Nat) (s E m : Nat) : Nat := if reach s 0 (sel L m) = E + s then 1 else 0
theorem sub_of_srt : ∀ {S L : List Nat}, Srt S → Srt L → (∀ x ∈ S, x ∈ L) → S.Sublist L
  | [], L, _, _, _ => List.nil_sublist _
  | a :: r, [], _, _, h => by have := h a List.mem_cons_self; cases this
  | a :: r, b :: l, h1, h2, h => by
    obtain ⟨p1, p2⟩ := List.pairwise_cons.mp h1
    obtain ⟨q1, q2⟩ := List.pairwise_cons.mp h2
    by_cases c : a = b
    · subst c
      refine List.Sublist.cons₂ a (sub_of_srt p2 q2 fun x hx => ?_)
      rcases List.mem_cons.mp (h x (List.mem_cons_of_mem _ hx)) with e | e
      · have := p1 x hx; omega
      · exact e
    · refine List.Sublist.cons b (sub_of_srt h1 q2 fun x hx => ?_)
      rcases List.mem_cons.mp (h x hx) with e | e
      · exfalso
        rcases List.mem_cons.mp (h a List.mem_cons_self) with z | z
        · exact c z
        · have := q1 a z
          rcases List.mem_cons.mp hx with y | y
          · omega
          · have := p1 x y; omega
      · exact e
theorem count_few (h0 : 0 < s) (hs : Srt L) (hE : ∀ p ∈ L, p ≤ E) (hr : reach s 0 L = E + s) {g b : Nat → Nat} (hg : Cnt L s g L) (hb : Bck L s E b L) : 1 ≤ (if E ∈ L then g E else 0) ∧ ((if E ∈ L then g E else 0) = 1 ↔ 0 :: fl L s E 0 = L) := by
  obtain ⟨D, h00⟩ := dns_of h0 hs hE hr
  obtain ⟨f1, f2, f3⟩ := few_reach h0 hs hE D h00
  have e : (if E ∈ L then g E else 0) = sR (2 ^ L.length) (indS L s E) := by
    rw [both_ways hs hg hb, ← sets_count h0 hs hE hb]; rfl
  rw [e]
  obtain ⟨mL, lL, sL⟩ := sel_all (List.Sublist.refl L)
  obtain ⟨mF, lF, sF⟩ := sel_all (sub_of_srt f1 hs f2)
  have iL : indS L s E mL = 1 := by unfold indS; rw [sL, if_pos hr]
  have iF : indS L s E mF = 1 := by unfold indS; rw [sF, if_pos f3]
  have ge : 1 ≤ sR (2 ^ L.length) (indS L s E) := by
    have h1 := sR_one _ _ lL
    have h2 := sm_le (List.range (2 ^ L.length)) (fun x => if x = mL then 1 else 0) (indS L s E) fun x _ => by
      by_cases c : x = mL
      · rw [if_pos c, c, iL]; exact Nat.le_refl _
      · rw [if_neg c]; exact Nat.zero_le _
    unfold sR at h1 ⊢
    omega
  refine ⟨ge, fun h => ?_, fun h => ?_⟩
  · apply Classical.byContradiction
    intro ne
    have nm : mL ≠ mF := fun z => by rw [z, sF] at sL; exact ne sL
    have h1 := sR_one _ _ lL
    have h2 := sR_one _ _ lF
    have h3 := sm_le (List.range (2 ^ L.length)) (fun x => (if x = mL then 1 else 0) + if x = mF then 1 else 0) (indS L s E) fun x _ => by
      by_cases c : x = mL
      · have c2 : ¬ x = mF := fun z => nm (by rw [← c, z])
        rw [if_pos c, if_neg c2, c, iL]; exact Nat.le_refl _
      · by_cases c2 : x = mF
        · rw [if_neg c, if_pos c2, c2, iF]; exact Nat.le_refl _
        · rw [if_neg c, if_neg c2]; exact Nat.zero_le _
    rw [sm_add] at h3
    unfold sR at h h1 h2
    omega
  · have key : ∀ m, m < 2 ^ L.length → indS L s E m = if m = mL then indS L s E m else 0 := fun m hm => by
      by_cases c : m = mL
      · rw [if_pos c]
      · rw [if_neg c]
        unfold indS
        rw [if_neg]
        intro z
        have sub := sel_sub L m
        have l1 := few_least' h0 hs hE D h00 (hs.sublist sub) (fun x hx => sub.subset hx) z
        rw [h] at l1
        have es := sub.eq_of_length_le l1
        have := sel_full hm es
        have h2 := sel_full lL sL
        exact c (by omega)
    have h1 : sR (2 ^ L.length) (indS L s E) = sR (2 ^ L.length) fun m => if m = mL then indS L s E m else 0 := sR_congr key
    have h2 := sm_one (L := List.range (2 ^ L.length)) mL (indS L s E) (srt_range _)
    rw [if_pos (List.mem_range.mpr lL), iL] at h2
    rw [h1]
    exact h2
end
end Ov
namespace MV
open PySem PySem.Spec PyProof.Rows L2
section
variable {cf : Cf} {R : Rs} {Hs : Hp} {env : PEnv} {σ : L2.St} {H : Hp} {F : Nat → List Addr} {wf : List Addr}
theorem Rel.ext {env1 : PEnv} {Hs1 H1 : Hp} (r : Rel cf R Hs env σ H F wf) (s1 : Stp cf wf env Hs H env1 Hs1 H1) (r1 : Rel cf R Hs1 env1 σ H1 F wf) {i : Nat} {p : Addr} {o' : HO} {v : V} {d0 d' : D} {Fn : List Addr} (hw : cf.kd i ≠ .W) (hp : p ∈ F i) (he : env1[i]? = some (some d0)) (hv : σ[i]? = some (some v))
    (hn : Fn.Nodup) (hnew : ∀ a ∈ Fn, H a = none ∧ H1 a ≠ none) (hs : SlotR cf.K R (rm Hs1 Fn) (upd H1 p o') (F i ++ Fn) (cf.kd i) v d') : Rel cf R (rm Hs1 Fn) (env1.set i (some d')) σ (upd H1 p o') (fun j => if j = i then F i ++ Fn else F j) wf ∧ Ex Hs (rm Hs1 Fn) := by
  have old : ∀ a, H a ≠ none → a ∉ Fn := fun a h m => h (hnew a m).1
  have exs : Ex Hs (rm Hs1 Fn) := fun a o h => by
    have : a ∉ Fn := old a (by rw [r.exs a o h]; exact fun z => by cases z)
    unfold rm
    rw [if_neg this]
    exact s1.ex a o h
  have sub : Ex (rm Hs1 Fn) Hs1 := rm_sub _ _
  have pS : Hs1 p = none := r1.uns i p hp
  have hu : ∀ a, H1 a ≠ none → upd H1 p o' a ≠ none := fun a h => by
    by_cases e : a = p
    · subst e; rw [upd_same]; exact fun z => by cases z
    · rw [upd_ne e]; exact h
  have memE : ∀ {j : Nat} {a : Addr}, a ∈ (if j = i then F i ++ Fn else F j) → a ∈ F j ∨ (j = i ∧ a ∈ Fn) := fun {j a} m => by
    by_cases e : j = i
    · subst e; rw [if_pos rfl] at m; exact (List.mem_append.mp m).imp id fun m => ⟨rfl, m⟩
    · rw [if_neg e] at m; exact .inl m
  refine ⟨?_, exs⟩
  constructor
  case len => rw [List.length_set]; exact r1.len
  case exs =>
    intro a o h
    have h := sub a o h
    rw [upd_ne (fun e => by subst e; rw [pS] at h; cases h)]
    exact r1.exs a o h
  case ex0 => exact fun a o h n => exs a o (r.ex0 a o h n)
  case dom0 => exact fun a h => hu a (r1.dom0 a h)
  case slot =>
    intro j d'' h
    rcases get_set h with ⟨rfl, e, hl⟩ | ⟨ne, h⟩
    · cases e
      exact ⟨v, hv, by rw [if_pos rfl]; exact hs⟩
    · obtain ⟨w, h1, h2⟩ := r1.slot j d'' h
      refine ⟨w, h1, ?_⟩
      rw [if_neg (Ne.symm ne)]
      have np : ∀ a ∈ F j, a ≠ p := fun a m e => by subst e; exact r.dis i j ne _ hp m
      by_cases hw : cf.kd j = .W
      · rw [hw] at h2 ⊢
        obtain ⟨p2, xs, ds, e1, e2, e3, e4, e5⟩ := h2
        exact ⟨p2, xs, ds, e1, e2, e3, by rw [upd_ne (np p2 (by rw [e3]; exact List.mem_singleton.mpr rfl))]; exact e4, e5⟩
      · have h' : env[j]? = some (some d'') := by rw [← s1.kp j hw]; exact h
        obtain ⟨w0, g1, g2⟩ := r.slot j d'' h'
        have ew : w0 = w := by rw [g1] at h1; cases h1; rfl
        subst ew
        have kp : ∀ a ∈ F j, ∀ o, H a = some o → upd H1 p o' a = some o := fun a m o ha => by
          rw [upd_ne (np a m)]; exact s1.keep a o (r.volb j hw a m) ha
        cases q : cf.kd j with
        | S => rw [q] at g2; exact Rp.mono exs g2
        | N => rw [q] at g2; exact Rp.mono (rs_mono exs) g2
        | Q => rw [q] at g2; exact Rp.mono exs g2
        | P => rw [q] at g2; exact Own.keep (th_mono (rs_mono exs)) g2 kp
        | M => rw [q] at g2; exact ⟨Own.keep (rs_mono exs) g2.1 kp, g2.2⟩
        | W => exact absurd q hw
  case nod =>
    intro j
    by_cases e : j = i
    · rw [if_pos e]
      exact List.nodup_append.mpr ⟨r.nod i, hn, fun a m b m2 e => by subst e; exact r.fdom i a m (hnew a m2).1⟩
    · rw [if_neg e]; exact r.nod j
  case dis =>
    intro j k ne a m m2
    rcases memE m with m | ⟨e, m⟩
    · rcases memE m2 with m2 | ⟨e2, m2⟩
      · exact r.dis j k ne a m m2
      · exact r.fdom j a m (hnew a m2).1
    · rcases memE m2 with m2 | ⟨e2, m2⟩
      · exact r.fdom k a m2 (hnew a m).1
      · exact ne (e.trans e2.symm)
  case fdom =>
    intro j a m
    rcases memE m with m | ⟨e, m⟩
    · exact hu a (r1.fdom j a m)
    · exact hu a (hnew a m).2
  case uns =>
    intro j a m
    rcases memE m with m | ⟨e, m⟩
    · unfold rm
      split
      · rfl
      · exact r1.uns j a m
    · unfold rm; rw [if_pos m]
  case new =>
    intro j a m
    rcases memE m with m | ⟨e, m⟩
    · exact r.new j a m
    · refine .inr ?_
      cases q : R.H0 a with
      | none => rfl
      | some o => exact absurd (hnew a m).1 (r.dom0 a (by rw [q]; exact fun z => by cases z))
  case volw =>
    intro j hk a m
    rcases memE m with m | ⟨e, m⟩
    · exact r.volw j hk a m
    · subst e; exact absurd hk hw
  case volb =>
    intro j hk a m z
    rcases memE m with m | ⟨e, m⟩
    · exact r.volb j hk a m z
    · exact (r.wdom a z).1 (hnew a m).1
  case wdom =>
    intro a m
    obtain ⟨g1, g2⟩ := r1.wdom a m
    refine ⟨hu a g1, ?_⟩
    unfold rm
    split
    · rfl
    · exact g2
  case ior =>
    intro q h
    obtain ⟨h1, h2, h3, d2, h4⟩ := r1.ior q h
    have ne : (0 : Nat) ≠ i := fun e => by subst e; exact hw h3
    exact ⟨h1, by rw [if_neg ne]; exact h2, h3, d2, by rw [List.getElem?_set_ne (Ne.symm ne)]; exact h4⟩
end
mutual
def D.tuo : D → Bool
  | .tup ds => tuoL ds
  | d => d.sc
def tuoL : List D → Bool
  | [] => true
  | d :: ds => D.tuo d && tuoL ds
end
mutual
theorem Rp.th {K : PySem.W.Frag} {G : Hp} : ∀ {v : V} {d : D}, Rp K true G v d → d.tuo = true → Rp K true (TH G) v d
  | _, _, .sc h, _ => .sc h
  | _, _, .tup h r, t => .tup (th_tup h) (RpL.th r (by rw [D.tuo] at t; exact t))
  | _, _, .lst h r, t => by rw [D.tuo] at t; · cases t
                            · intro _ z; cases z
  | _, _, .dic h l r, t => by rw [D.tuo] at t; · cases t
                              · intro _ z; cases z
  | _, _, .dit h l r, t => by rw [D.tuo] at t; · cases t
                              · intro _ z; cases z
  | _, _, .exc h, t => by rw [D.tuo] at t; · cases t
                          · intro _ z; cases z
theorem RpL.th {K : PySem.W.Frag} {G : Hp} : ∀ {vs : List V} {ds : List D}, RpL K true G vs ds → tuoL ds = true → RpL K true (TH G) vs ds
  | _, _, .nil, _ => .nil
  | _, _, .cons h r, t => by
    rw [tuoL, Bool.and_eq_true] at t
    exact .cons (Rp.th h t.1) (RpL.th r t.2)
end
section
variable {X : Cx} {cf : Cf} {W : WX} {c : Cls} {n n1 n2 : Bool}
end
end MV
namespace MV
open PySem PySem.Spec PyProof.Rows L2
section
variable {X : Cx} {cf : Cf} {W : WX} {c : Cls} {n n1 n2 : Bool}
end
section
variable {X : Cx} {P : Program} {w : World} {K : PySem.W.Frag} {tg : Expr} {d : Addr} {o : Obj} {es : Array DictEntry} {ep : Nat}
end
end MV
namespace MV
open PySem PySem.Spec PyProof.Rows L2
section
variable {K : PySem.W.Frag} {G G' : Hp} {p : Addr} {kvs : List (List Key × V)}
structure Swp (G G' : Hp) (p : Addr) (kvs : List (List Key × V)) : Prop where
  a : Rd G p (.dT kvs)
  b : Rd G' p (.dT kvs)
  off : ∀ q, q ≠ p → G' q = G q
theorem Swp.ne {q : Addr} {o : HO} (s : Swp G G' p kvs) (h : G q = some o) (n1 : o ≠ .dT kvs) (n2 : ∀ ob, o ≠ .frz ob (.dT kvs)) : q ≠ p := fun e => by
  subst e
  rcases s.a with z | ⟨ob, z⟩
  · rw [z] at h; cases h; exact n1 rfl
  · rw [z] at h; cases h; exact n2 ob rfl
theorem Swp.rs {B : Hp} (s : Swp G G' p kvs) (h : B p = none) : Swp (rs G B) (rs G' B) p kvs := by
  refine ⟨?_, ?_, fun q n => ?_⟩
  · unfold Rd; rw [rs_none h]; exact s.a
  · unfold Rd; rw [rs_none h]; exact s.b
  · cases z : B q with
    | none => rw [rs_none z, rs_none z]; exact s.off q n
    | some u => rw [rs_some z, rs_some z]
theorem swp_sql {x : Bool} {a : Addr} {xs : List V} (s : Swp G G' p kvs) (h : SqLx K x G a xs) : SqLx K x G' a xs := by
  cases x with
  | true =>
    have h : G a = some (.lst xs) := h
    show G' a = some (.lst xs)
    rw [s.off a (s.ne h (fun z => by cases z) fun _ z => by cases z)]; exact h
  | false =>
    rcases h with (h | ⟨o, h⟩) | h
    · exact .inl (.inl (by rw [s.off a (s.ne h (fun z => by cases z) fun _ z => by cases z)]; exact h))
    · exact .inl (.inr ⟨o, by rw [s.off a (s.ne h (fun z => by cases z) fun _ z => by cases z)]; exact h⟩)
    · exact .inr h
theorem swp_sqt {x : Bool} {a : Addr} {xs : List V} (s : Swp G G' p kvs) (h : SqTx K x G a xs) : SqTx K x G' a xs := by
  cases x with
  | true =>
    have h : G a = some (.tup xs) := h
    show G' a = some (.tup xs)
    rw [s.off a (s.ne h (fun z => by cases z) fun _ z => by cases z)]; exact h
  | false =>
    rcases h with (h | ⟨o, h⟩) | h
    · exact .inl (.inl (by rw [s.off a (s.ne h (fun z => by cases z) fun _ z => by cases z)]; exact h))
    · exact .inl (.inr ⟨o, by rw [s.off a (s.ne h (fun z => by cases z) fun _ z => by cases z)]; exact h⟩)
    · exact .inr h
theorem swp_dqk {x : Bool} {a : Addr} {ks : List (Key × V)} (s : Swp G G' p kvs) (h : DqK x G a ks) : DqK x G' a ks := by
  cases x with
  | true =>
    have h : G a = some (.dK ks) := h
    show G' a = some (.dK ks)
    rw [s.off a (s.ne h (fun z => by cases z) fun _ z => by cases z)]; exact h
  | false =>
    obtain ⟨o, h⟩ := h
    exact ⟨o, by rw [s.off a (s.ne h (fun z => by cases z) fun _ z => by cases z)]; exact h⟩
theorem swp_rd {a : Addr} {ks : List (List Key × V)} (s : Swp G G' p kvs) (h : Rd G a (.dT ks)) : Rd G' a (.dT ks) := by
  by_cases e : a = p
  · subst e
    have : ks = kvs := by
      rcases s.a with z | ⟨ob, z⟩ <;> rcases h with h | ⟨ob2, h⟩ <;> rw [z] at h <;> cases h <;> rfl
    rw [this]; exact s.b
  · unfold Rd; rw [s.off a e]; exact h
theorem swp_exh {a : Addr} {c : Value} (s : Swp G G' p kvs) (h : G a = some (ExH c a)) : G' a = some (ExH c a) := by
  rw [s.off a (s.ne h (fun z => by cases z) fun _ z => by cases z)]; exact h
mutual
theorem Rp.swp {x : Bool} (s : Swp G G' p kvs) : ∀ {v : V} {d : D}, Rp K x G v d → Rp K x G' v d
  | _, _, .sc h => .sc h
  | _, _, .lst h r => .lst (swp_sql s h) (RpL.swp s r)
  | _, _, .tup h r => .tup (swp_sqt s h) (RpL.swp s r)
  | _, _, .dic h l r => .dic (swp_dqk s h) l (RpL.swp s r)
  | _, _, .dit h l r => .dit (swp_rd s h) l (RpL.swp s r)
  | _, _, .exc h => .exc (swp_exh s h)
theorem RpL.swp {x : Bool} (s : Swp G G' p kvs) : ∀ {vs : List V} {ds : List D}, RpL K x G vs ds → RpL K x G' vs ds
  | _, _, .nil => .nil
  | _, _, .cons h r => .cons (Rp.swp s h) (RpL.swp s r)
end
end
mutual
theorem Own.keepR {K : PySem.W.Frag} {Hn Hn' H H' : Hp} (en : ∀ v d, Rp K true Hn v d → Rp K true Hn' v d) : ∀ {F : List Addr} {v : V} {d : D}, Own K Hn H F v d → (∀ a ∈ F, ∀ o, H a = some o → H' a = some o) → Own K Hn' H' F v d
  | _, _, _, .leaf h, _ => .leaf (en _ _ h)
  | _, _, _, .lst h r, e => .lst (e _ List.mem_cons_self _ h) (OwnL.keepR en r fun a m => e a (List.mem_cons_of_mem _ m))
  | _, _, _, .tup h r, e => .tup (e _ List.mem_cons_self _ h) (OwnL.keepR en r fun a m => e a (List.mem_cons_of_mem _ m))
  | _, _, _, .dic h l r, e => .dic (e _ List.mem_cons_self _ h) l (OwnL.keepR en r fun a m => e a (List.mem_cons_of_mem _ m))
  | _, _, _, .dit h l r, e => .dit (e _ List.mem_cons_self _ h) l (OwnL.keepR en r fun a m => e a (List.mem_cons_of_mem _ m))
theorem OwnL.keepR {K : PySem.W.Frag} {Hn Hn' H H' : Hp} (en : ∀ v d, Rp K true Hn v d → Rp K true Hn' v d) : ∀ {F : List Addr} {vs : List V} {ds : List D}, OwnL K Hn H F vs ds → (∀ a ∈ F, ∀ o, H a = some o → H' a = some o) → OwnL K Hn' H' F vs ds
  | _, _, _, .nil, _ => .nil
  | _, _, _, .cons h r, e => .cons (Own.keepR en h fun a m => e a (List.mem_append_left _ m)) (OwnL.keepR en r fun a m => e a (List.mem_append_right _ m))
end
theorem th_swp {G G' : Hp} {p : Addr} {kvs : List (List Key × V)} (s : Swp G G' p kvs) : Ex (TH G) (TH G') := fun a o h => by
  obtain ⟨xs, rfl, q⟩ := th_some h
  exact th_tup (by rw [s.off a (s.ne q (fun z => by cases z) fun _ z => by cases z)]; exact q)
section
variable {cf : Cf} {R : Rs} {Hs H : Hp} {env : PEnv} {σ : L2.St} {F : Nat → List Addr} {wf : List Addr} {p : Addr} {kvs : List (List Key × V)}
theorem swp_upd {o : HO} (a : Rd Hs p (.dT kvs)) (b : o = .dT kvs ∨ ∃ ob, o = .frz ob (.dT kvs)) : Swp Hs (upd Hs p o) p kvs :=
  ⟨a, by rcases b with rfl | ⟨ob, rfl⟩; · exact .inl upd_same
         · exact .inr ⟨ob, upd_same⟩, fun q n => upd_ne n⟩
theorem Rel.swp (r : Rel cf R Hs env σ H F wf) (a : Rd Hs p (.dT kvs)) (h0 : R.H0 p = none) {o : HO} (b : o = .dT kvs ∨ ∃ ob, o = .frz ob (.dT kvs)) : Rel cf R (upd Hs p o) env σ (upd H p o) F wf := by
  have s := swp_upd a b
  have pS : Hs p ≠ none := by rcases a with z | ⟨_, z⟩ <;> rw [z] <;> exact fun z => by cases z
  have nF : ∀ {i : Nat} {x : Addr}, x ∈ F i → x ≠ p := fun {i x} m e => by subst e; exact pS (r.uns i x m)
  have nW : ∀ {x : Addr}, x ∈ wf → x ≠ p := fun {x} m e => by subst e; exact pS (r.wdom x m).2
  have own : ∀ (i : Nat), ∀ x ∈ F i, ∀ o', H x = some o' → upd H p o x = some o' := fun i x m o' e => by rw [upd_ne (nF m)]; exact e
  refine
    { len := r.len
      exs := fun x o' h => by
        by_cases q : x = p
        · subst q; rw [upd_same] at h ⊢; exact h
        · rw [upd_ne q] at h ⊢; exact r.exs x o' h
      ex0 := fun x o' h n => by
        have q : x ≠ p := fun e => by subst e; rw [h0] at h; cases h
        rw [upd_ne q]; exact r.ex0 x o' h n
      dom0 := fun x h => by
        by_cases q : x = p
        · subst q; rw [upd_same]; exact fun z => by cases z
        · rw [upd_ne q]; exact r.dom0 x h
      slot := fun i d h => ?_
      nod := r.nod
      dis := r.dis
      fdom := fun i x m => by rw [upd_ne (nF m)]; exact r.fdom i x m
      uns := fun i x m => by rw [upd_ne (nF m)]; exact r.uns i x m
      new := r.new
      volw := r.volw
      volb := r.volb
      wdom := fun x m => by rw [upd_ne (nW m), upd_ne (nW m)]; exact r.wdom x m
      ior := r.ior }
  obtain ⟨v, h1, h2⟩ := r.slot i d h
  refine ⟨v, h1, ?_⟩
  have sr := s.rs (B := R.H0) h0
  cases q : cf.kd i with
  | S => rw [q] at h2; exact h2.swp s
  | Q => rw [q] at h2; exact h2.swp s
  | N => rw [q] at h2; exact h2.swp sr
  | P => rw [q] at h2; exact h2.keep (th_swp sr) (own i)
  | M => rw [q] at h2; exact ⟨h2.1.keepR (fun v d h => h.swp sr) (own i), h2.2⟩
  | W =>
    rw [q] at h2
    obtain ⟨p', xs, ds, e1, e2, e3, e4, e5⟩ := h2
    exact ⟨p', xs, ds, e1, e2, e3, own i p' (by rw [e3]; exact List.mem_cons_self) _ e4, e5⟩
end
def nox : Res Fl → Res Fl
  | .ex _ _ => .stuck
  | r => r
section
variable {X : Cx} {cf : Cf} {W : WX} {c : Cls} {n n1 n2 : Bool}
def Lk (D : Ends) (p : Addr) (z u : HO) : Ends := ⟨fun σ' H' => H' p = some z ∧ D.nx σ' (upd H' p u), fun v H' => H' p = some z ∧ D.rt v (upd H' p u), fun σ' H' => H' p = some z ∧ D.bk σ' (upd H' p u), fun σ' H' => H' p = some z ∧ D.ct σ' (upd H' p u)⟩
theorem Post.lk {R : Rs} {Hs : Hp} {D : Ends} {p : Addr} {kvs : List (List Key × V)} {od : Obj} {g : Res Fl} (hu : Hs p = some (.dT kvs)) (h0 : R.H0 p = none) (hp : Post cf W R Hs D (nox g)) : Post cf W R (upd Hs p (.frz od (.dT kvs))) (Lk D p (.frz od (.dT kvs)) (.dT kvs)) g := by
  have ex : ∀ {Hs' : Hp}, Ex (upd Hs p (.frz od (.dT kvs))) Hs' → Hs' p = some (.frz od (.dT kvs)) ∧ Ex Hs (upd Hs' p (.dT kvs)) := fun {Hs'} e => ⟨e _ _ upd_same, fun a o h => by
    by_cases q : a = p
    · subst q; rw [upd_same]; rw [hu] at h; exact h
    · rw [upd_ne q]; exact e a o (by rw [upd_ne q]; exact h)⟩
  have th : ∀ {Hs' H' : Hp} {env' : PEnv} {σ' : L2.St} {F' : Nat → List Addr} {wf' : List Addr}, Ex (upd Hs p (.frz od (.dT kvs))) Hs' → Rel cf R Hs' env' σ' H' F' wf' → H' p = some (.frz od (.dT kvs)) ∧ Rel cf R (upd Hs' p (.dT kvs)) env' σ' (upd H' p (.dT kvs)) F' wf' := fun {Hs' H' env' σ' F' wf'} e r' => by
    obtain ⟨e1, e2⟩ := ex e
    exact ⟨r'.exs _ _ e1, r'.swp (.inr ⟨od, e1⟩) h0 (.inl rfl)⟩
  cases g with
  | stuck => exact hp
  | ex x e => exact hp.elim
  | ok f env' =>
    cases f with
    | nx => exact fun Hs' σ' H' F' wf' e r' => ⟨(th e r').1, hp _ σ' _ F' wf' (ex e).2 (th e r').2⟩
    | bk => exact fun Hs' σ' H' F' wf' e r' => ⟨(th e r').1, hp _ σ' _ F' wf' (ex e).2 (th e r').2⟩
    | ct => exact fun Hs' σ' H' F' wf' e r' => ⟨(th e r').1, hp _ σ' _ F' wf' (ex e).2 (th e r').2⟩
    | rt d =>
      intro v Hs' σ' H' F' wf' e r' pv
      obtain ⟨q1, q2⟩ := th e r'
      refine ⟨q1, hp v _ σ' _ F' wf' (ex e).2 q2 ?_⟩
      have nw : p ∉ wf' := fun m => by
        have := (r'.wdom p m).2
        rw [(ex e).1] at this
        cases this
      have s1 : Rd (rm H' wf') p (.dT kvs) := by unfold Rd rm; rw [if_neg nw]; exact .inr ⟨od, q1⟩
      have s2 : Rd (rm (upd H' p (.dT kvs)) wf') p (.dT kvs) := by unfold Rd rm; rw [if_neg nw, upd_same]; exact .inl rfl
      have s : Swp (rm H' wf') (rm (upd H' p (.dT kvs)) wf') p kvs := ⟨s1, s2, fun q n => by
        unfold rm
        split
        · rfl
        · exact upd_ne n⟩
      exact pv.swp (s.rs (B := R.H0) h0)
end
end MV
namespace Ov
open PySem MV
end Ov
namespace MV
open PySem PySem.Spec PyProof.Rows L2
section
variable {X : Cx} {cf : Cf} {W : WX} {c : Cls} {n n1 n2 n3 : Bool}
end
end MV
namespace Ov
open PySem MV
end Ov
namespace MV
open PySem PySem.Spec PyProof.Rows L2
theorem tuoL_get : ∀ {ds : List D} {i : Nat} {d : D}, tuoL ds = true → ds[i]? = some d → d.tuo = true
  | [], _, _, _, h => by simp at h
  | d :: ds, 0, _, t, h => by
    rw [tuoL, Bool.and_eq_true] at t
    cases h; exact t.1
  | d :: ds, i + 1, _, t, h => by
    rw [tuoL, Bool.and_eq_true] at t
    exact tuoL_get t.2 h
theorem ref_lst {K : PySem.W.Frag} {G : Hp} {a : Addr} {ys : List V} {d : D} (ha : G a = some (.lst ys)) (h : Rp K true G (.ref a) d) (t : d.tuo = true) : False := by
  generalize hv : V.ref a = v at h
  cases h with
  | sc h => subst hv; cases d <;> cases h
  | tup h r => cases hv; have h : G a = some (.tup _) := h; rw [ha] at h; cases h
  | lst h r => rw [D.tuo] at t; · cases t
               · intro _ z; cases z
  | dic h l r => rw [D.tuo] at t; · cases t
                 · intro _ z; cases z
  | dit h l r => rw [D.tuo] at t; · cases t
                 · intro _ z; cases z
  | exc h => rw [D.tuo] at t; · cases t
             · intro _ z; cases z
mutual
theorem Rp.thN {K : PySem.W.Frag} {G : Hp} {p a : Addr} {xs ys : List V} (hp : G p = some (.tup xs)) (ha : G a = some (.lst ys)) (hm : V.ref a ∈ xs) : ∀ {v : V} {d : D}, Rp K true G v d → d.tuo = true → Rp K true (TH (rm G [p, a])) v d
  | _, _, .sc h, _ => .sc h
  | _, .tup ds, .tup (a := b) h r, t => by
    have t : tuoL ds = true := by rw [D.tuo] at t; exact t
    have h : G b = some (.tup _) := h
    have nb : b ∉ [p, a] := fun m => by
      rcases List.mem_cons.mp m with rfl | m
      · rw [hp] at h; cases h
        obtain ⟨i, hi, e⟩ := List.getElem_of_mem hm
        obtain ⟨d', d1, d2⟩ := r.getV (by rw [List.getElem?_eq_getElem hi, e])
        exact ref_lst ha d2 (tuoL_get t d1)
      · rw [List.mem_singleton.mp m, ha] at h; cases h
    exact .tup (th_tup (by unfold rm; rw [if_neg nb]; exact h)) (RpL.thN hp ha hm r t)
  | _, _, .lst h r, t => by rw [D.tuo] at t; · cases t
                            · intro _ z; cases z
  | _, _, .dic h l r, t => by rw [D.tuo] at t; · cases t
                              · intro _ z; cases z
  | _, _, .dit h l r, t => by rw [D.tuo] at t; · cases t
                              · intro _ z; cases z
  | _, _, .exc h, t => by rw [D.tuo] at t; · cases t
                          · intro _ z; cases z
theorem RpL.thN {K : PySem.W.Frag} {G : Hp} {p a : Addr} {xs ys : List V} (hp : G p = some (.tup xs)) (ha : G a = some (.lst ys)) (hm : V.ref a ∈ xs) : ∀ {vs : List V} {ds : List D}, RpL K true G vs ds → tuoL ds = true → RpL K true (TH (rm G [p, a])) vs ds
  | _, _, .nil, _ => .nil
  | _, _, .cons h r, t => by
    rw [tuoL, Bool.and_eq_true] at t
    exact .cons (Rp.thN hp ha hm h t.1) (RpL.thN hp ha hm r t.2)
end
section
variable {X : Cx} {cf : Cf} {W : WX} {c : Cls} {n n1 n2 : Bool}
end
end MV
namespace Ov
open PySem MV
end Ov
namespace Ov
open PySem MV
def B__law_renamed : M Fl := (sSeq (sSet 3 (eC (.str (Str.ofString "abcdefghijklmnopqrstuvwxyz"))))
  (sRet (eF (eLc [4] (iL (eV 0)) (tgN 4) tTrue (e2 gIx (eV 3) (e2 gMod (e2 gAdd (e2 gMul (eV 2) (eM "str" gSIndex (eV 3) (aCons (eV 4) aNil))) (eV 1)) (eC (.int 26))))))))
def F__law_renamed : List D → FR := runF 5 B__law_renamed
end Ov
namespace MV
open PySem PySem.Spec PyProof.Rows L2
def pairD : D → Option (Key × D)
  | .tup [k, v] => (keyD k).map fun kk => (kk, v)
  | _ => none
def pairsD : List D → Option (List (Key × D))
  | [] => some []
  | d :: ds => match pairD d, pairsD ds with
    | some p, some r => some (p :: r)
    | _, _ => none
def mergeD (kvs : List (Key × D)) (more : List (Key × D)) : List (Key × D) := more.foldl (fun acc kv => dput acc kv.1 kv.2) kvs
def gDictP : List D → Option D
  | [.lst ds] => (pairsD ds).map fun m => .dic (mergeD [] m)
  | _ => none
def rDictP (K : PySem.W.Frag) : List V → Hp → VK → Prop := fun xs H Q => ∃ (a : Addr) (ps : List Addr) (kvs : List (Key × V)), xs = [.ref a] ∧ SqL K H a (ps.map V.ref) ∧ Paired (fun p kv => SqT K H p [kV kv.1, kv.2]) ps kvs ∧
    ∀ p, H p = none → Q (.ref p) (upd H p (.dK (mergeK [] kvs)))
theorem put_keys {kvs' : List (Key × V)} {kvs : List (Key × D)} {k : Key} {v : V} {d : D} (h : kvs'.map (·.1) = kvs.map (·.1)) : (putK kvs' k v).map (·.1) = (dput kvs k d).map (·.1) := by
  have an : (kvs'.any fun kv => decide (kv.1 = k)) = (kvs.any fun kv => decide (kv.1 = k)) := any_rp h
  unfold putK dput
  rw [an]
  by_cases c : (kvs.any fun kv => decide (kv.1 = k)) = true
  · rw [if_pos c, if_pos c, List.map_map, List.map_map]
    have e1 : kvs'.map ((·.1) ∘ fun kv => if kv.1 = k then (kv.1, v) else kv) = kvs'.map (·.1) := List.map_congr_left fun x _ => by show (if x.1 = k then (x.1, v) else x).1 = x.1; split <;> rfl
    have e2 : kvs.map ((·.1) ∘ fun kv => if kv.1 = k then (kv.1, d) else kv) = kvs.map (·.1) := List.map_congr_left fun x _ => by show (if x.1 = k then (x.1, d) else x).1 = x.1; split <;> rfl
    exact e1.trans (h.trans e2.symm)
  · rw [if_neg c, if_neg c, List.map_append, List.map_append, h]; rfl
theorem put_vals {K : PySem.W.Frag} {G : Hp} {k : Key} {v : V} {d : D} (hv : Rp K true G v d) : ∀ {kvs' : List (Key × V)} {kvs : List (Key × D)}, kvs'.map (·.1) = kvs.map (·.1) → RpL K true G (kvs'.map (·.2)) (kvs.map (·.2)) → RpL K true G ((putK kvs' k v).map (·.2)) ((dput kvs k d).map (·.2)) := by
  intro kvs' kvs h r
  have an : (kvs'.any fun kv => decide (kv.1 = k)) = (kvs.any fun kv => decide (kv.1 = k)) := any_rp h
  unfold putK dput
  rw [an]
  by_cases c : (kvs.any fun kv => decide (kv.1 = k)) = true
  · rw [if_pos c, if_pos c, List.map_map, List.map_map]
    clear an c
    induction kvs' generalizing kvs with
    | nil =>
      cases kvs with
      | nil => exact .nil
      | cons _ _ => cases h
    | cons p r' ih =>
      cases kvs with
      | nil => cases h
      | cons q s =>
        rw [List.map_cons, List.map_cons] at h r
        injection h with e1 e2
        cases r with
        | cons r1 r2 =>
          rw [List.map_cons, List.map_cons]
          refine .cons ?_ (ih e2 r2)
          show Rp K true G (if p.1 = k then (p.1, v) else p).2 (if q.1 = k then (q.1, d) else q).2
          by_cases e : p.1 = k
          · rw [if_pos e, if_pos (e1 ▸ e)]; exact hv
          · rw [if_neg e, if_neg (fun z => e (e1.trans z))]; exact r1
  · rw [if_neg c, if_neg c, List.map_append, List.map_append]
    exact r.append (.cons hv .nil)
theorem merge_rp {K : PySem.W.Frag} {G : Hp} : ∀ {more' : List (Key × V)} {more : List (Key × D)} {kvs' : List (Key × V)} {kvs : List (Key × D)}, more'.map (·.1) = more.map (·.1) → RpL K true G (more'.map (·.2)) (more.map (·.2)) → kvs'.map (·.1) = kvs.map (·.1) → RpL K true G (kvs'.map (·.2)) (kvs.map (·.2)) →
    (mergeK kvs' more').map (·.1) = (mergeD kvs more).map (·.1) ∧ RpL K true G ((mergeK kvs' more').map (·.2)) ((mergeD kvs more).map (·.2))
  | [], [], _, _, _, _, h, r => ⟨h, r⟩
  | p :: m', q :: m, kvs', kvs, h1, r1, h, r => by
    rw [List.map_cons, List.map_cons] at h1 r1
    injection h1 with e1 e2
    cases r1 with
    | cons r1 r2 =>
      show (mergeK (putK kvs' p.1 p.2) m').map _ = (mergeD (dput kvs q.1 q.2) m).map _ ∧ RpL K true G ((mergeK (putK kvs' p.1 p.2) m').map _) ((mergeD (dput kvs q.1 q.2) m).map _)
      have e1 : p.1 = q.1 := e1
      rw [e1]
      exact merge_rp e2 r2 (put_keys h) (put_vals r1 h r)
  | [], _ :: _, _, _, h, _, _, _ => by cases h
  | _ :: _, [], _, _, h, _, _, _ => by cases h
theorem pairs_rp {K : PySem.W.Frag} {G H : Hp} (e : Ex G H) : ∀ {vs : List V} {ds : List D} {m : List (Key × D)}, RpL K true G vs ds → pairsD ds = some m → ∃ (ps : List Addr) (kvs : List (Key × V)), vs = ps.map V.ref ∧ Paired (fun p kv => SqT K H p [kV kv.1, kv.2]) ps kvs ∧ kvs.map (·.1) = m.map (·.1) ∧ RpL K true G (kvs.map (·.2)) (m.map (·.2))
  | _, _, m, .nil, h => by cases h; exact ⟨[], [], rfl, .nil, rfl, .nil⟩
  | _, d :: ds, m, .cons h r, q => by
    unfold pairsD at q
    split at q
    · rename_i p m' q1 q2
      cases q
      obtain ⟨ps, kvs, rfl, h2, h3, h4⟩ := pairs_rp e r q2
      unfold pairD at q1
      split at q1
      · rename_i k v
        obtain ⟨kk, q3, e3⟩ := Option.map_eq_some_iff.mp q1
        subst e3
        obtain ⟨b, ys, rfl, s1, r3⟩ := h.tup_inv
        have s1 : G b = some (.tup ys) := s1
        cases r3 with
        | cons r4 r5 =>
          cases r5 with
          | cons r5 r6 =>
            cases r6
            rw [keyD_v r4 q3] at s1
            exact ⟨b :: ps, (kk, _) :: kvs, rfl, .cons (.inl (.inl (e _ _ s1))) h2, by rw [List.map_cons, List.map_cons, h3], .cons r5 h4⟩
      · cases q1
    · cases q
theorem snd_dictP {K : PySem.W.Frag} : SndN K true (rDictP K) gDictP := fun G H xs ds d e h q Q k => by
  unfold gDictP at q
  split at q
  · rename_i es
    obtain ⟨m, q1, rfl⟩ := Option.map_eq_some_iff.mp q
    cases h with
    | cons h1 h2 =>
      cases h2
      obtain ⟨a, ys, rfl, s1, r1⟩ := h1.lst_inv
      have s1 : G a = some (.lst ys) := s1
      obtain ⟨ps, kvs, rfl, p1, p2, p3⟩ := pairs_rp e r1 q1
      refine ⟨a, ps, kvs, rfl, .inl (.inl (e _ _ s1)), p1, fun p hp => ?_⟩
      obtain ⟨m1, m2⟩ := merge_rp (kvs' := []) (kvs := []) p2 p3 rfl .nil
      refine k _ _ (Ex.new hp) (.dic_mk (kvs' := mergeK [] kvs) (kvs := mergeD [] m) (by show grow _ _ _ _ = _; rw [grow_none hp, upd_same]) m1 ?_) fun _ hf => by cases hf
      refine m2.mono fun b o hb => ?_
      unfold grow
      rw [e _ _ hb]
      exact hb
  · cases q
section
variable {X : Cx} {cf : Cf} {W : WX} {c : Cls}
theorem se_dictP {e : Expr} {tA : TA} {fA : M (List D)} {p pos : Pos} (hK : cf.K = X.K) (hc : X.calm = true) (hm : X.mg "dict" = none) (ha : SA X cf W c [e] tA fA) (hg : Gl X "dict" := by rfl) (he : starEach [e] X.env = (false, eval e X.env) :: starEach [] X.env := by rfl) :
    SE X cf W c true (.Call (.Name "dict" p) [e] [] pos) (tCB (rDictP cf.K) tA) (eN gDictP fA) := by
  rw [hK]
  exact se_ct (call_dictP hc) (n := true) (by rw [hK]; exact snd_dictP) hg hm (by decide +kernel) ha (by decide) (by decide) he rfl
end
end MV
namespace Ov
open PySem MV
def B__law_renamed_v3 : M Fl := (sSeq (sSetW 1 (eN gList1 (aCons (eC (.str (Str.ofString "abcdefghijklmnopqrstuvwxyz"))) aNil)))
  (sRet (eN gDictP (aCons (eLc [2] (iS (eC (.str (Str.ofString "abcdefghijklmnopqrstuvwxyz")))) (tgN 2) tTrue (eN gTupD (aCons (eS (eV 2)) (aCons (ePopW 1 (eCallW F__law_take 0 (aCons (eLenW 1) aNil))) aNil)))) aNil))))
def F__law_renamed_v3 : List D → FR := runF 3 B__law_renamed_v3
end Ov
namespace MV
open PySem PySem.Spec PyProof.Rows L2
def keyOfS (e : Int × Value) : Str := match e.2 with | .str k _ => k | _ => Str.empty
def GoodES (w : World) (e : Int × Value) : Prop := ∃ k tk, e.2 = Value.str k tk ∧ e.1 = hashStr w k
def SetRS (w : World) (h : Heap) (a : Addr) (S : Str → Bool) (n : Nat) : Prop :=
  ∃ o es ep t, h.get? a = some o ∧ o.ExactSet ∧ o.data = .set es ep t ∧ (∀ e ∈ es.toList, GoodES w e) ∧ (es.toList.map keyOfS).Nodup ∧ (∀ k, S k = true ↔ k ∈ es.toList.map keyOfS) ∧
    es.size < scanBound ∧ t.fits es.size = true ∧ es.size = n ∧ Ris t.place.toList ∧ (w.params.followText "set-order" = true ∨ t.led = true)
section
variable {P : Program} {w : World} {h h' : Heap} {a : Addr} {S : Str → Bool} {n : Nat}
theorem SetRS.at (R : SetRS w h a S n) (k : ∀ o, h.get? a = some o → h'.get? a = some o) : SetRS w h' a S n := by
  obtain ⟨o, es, ep, t, ho, r⟩ := R
  exact ⟨o, es, ep, t, k o ho, r⟩
theorem SetRS.congr {S' : Str → Bool} (R : SetRS w h a S n) (e : ∀ k, S' k = S k) : SetRS w h a S' n := by
  have q : S' = S := funext e
  rw [q]; exact R
theorem goodS_elems {l : List (Int × Value)} (g : ∀ e ∈ l, GoodES w e) : ElemsOf (PySem.strKind P w) l := fun e he => by
  obtain ⟨k, tk, h1, h2⟩ := g e he
  exact ⟨⟨k, by rw [h1]; exact PySem.strKind_is P w k tk, h2⟩, by rw [h1] <;> rfl⟩
theorem goodS_is {e : Int × Value} (g : GoodES w e) (k : Str) : (PySem.strKind P w).is k e.2 = true ↔ keyOfS e = k := by
  obtain ⟨k0, tk, h1, _⟩ := g
  unfold keyOfS
  rw [h1]
  show ((k0 == k) = true) ↔ k0 = k
  exact beq_iff_eq
theorem goodS_mem {l : List (Int × Value)} (g : ∀ e ∈ l, GoodES w e) (k : Str) : k ∈ l.map keyOfS ↔ ∃ e ∈ l, (PySem.strKind P w).is k e.2 = true := by
  rw [List.mem_map]
  constructor
  · rintro ⟨e, he, q⟩
    exact ⟨e, he, (goodS_is (g e he) k).2 q⟩
  · rintro ⟨e, he, q⟩
    exact ⟨e, he, (goodS_is (g e he) k).1 q⟩
end
section
variable {P : Program} {w : World} {A : Around} {E : Value → Shared → Prop} {s : Shared} {a : Addr} {S : Str → Bool} {n : Nat}
theorem setRS_add_tail {g : Bool → Sem Unit} (hg : ∀ (b : Bool) (s₁ : Shared) (Q' : Unit → Shared → Prop), Q' () s₁ → wpAny (model P w) A (g b) Q' E s₁)
    {o : Obj} {es : Array (Int × Value)} {ep : Nat} {t : SetTable} (ho : s.heap.get? a = some o) (hex : o.ExactSet) (hd : o.data = .set es ep t)
    {es1 : Array (Int × Value)} {t2 : SetTable} {S' : Str → Bool} (g1 : ∀ e ∈ es1.toList, GoodES w e) (nd1 : (es1.toList.map keyOfS).Nodup) (m1 : ∀ k, S' k = true ↔ k ∈ es1.toList.map keyOfS)
    (hb1 : es1.size < scanBound) (hf2 : t2.fits es1.size = true) (hr : Ris t2.place.toList) (hl : w.params.followText "set-order" = true ∨ t2.led = true) {wasDummy : Bool} {R : Option Bool → Shared → Prop}
    (hR : ∀ h', Heap.SameBut a s.heap h' → SetRS w h' a S' es1.size → R (some true) { s with heap := h' }) :
    wpAny (model P w) A (do
        storeSet a es1 t2
        if (!wasDummy && t2.tooFull) = true then do
            g (relayAll t2 es1 (SetTable.grown es1.size)).2.2
            storeSet a (relayAll t2 es1 (SetTable.grown es1.size)).1 (relayAll t2 es1 (SetTable.grown es1.size)).2.1
            pure (some true)
          else pure (some true)) R E s := by
  refine wpAny_bind (wpAny_storeSet_of ho hd ?_ (fits_of_scanBound hb1))
  have ho1 := store_at (es' := es1) (t' := t2) ho hd
  have sb1 := Heap.SameBut.update s.heap a (Obj.putSet es1 t2)
  split
  · have pm := relayAll_perm t2 es1 (SetTable.grown es1.size)
    have hf3 := relayAll_fits t2 es1 (SetTable.grown es1.size)
    have hr3 := relayAll_ris t2 es1 (SetTable.grown es1.size)
    have hl3 := relayAll_led t2 es1 (SetTable.grown es1.size)
    generalize relayAll t2 es1 (SetTable.grown es1.size) = Z at pm hf3 hr3 hl3 ⊢
    obtain ⟨es2, t3, gave⟩ := Z
    dsimp only at pm hf3 hr3 hl3 ⊢
    have hsz : es2.size = es1.size := by rw [← Array.length_toList, pm.length_eq, Array.length_toList]
    have hb2 : es2.size < scanBound := by rw [hsz]; exact hb1
    refine wpAny_bind (hg _ _ _ ?_)
    refine wpAny_bind (wpAny_storeSet_of ho1 rfl ?_ (fits_of_scanBound hb2))
    have ho2 := store_at (es' := es2) (t' := t3) ho1 rfl
    refine wpAny_pure (hR _ (sb1.trans (Heap.SameBut.update _ a _)) ?_)
    exact ⟨_, es2, _, t3, ho2, hex, rfl, fun e he => g1 e (pm.mem_iff.mp he), (pm.map keyOfS).nodup_iff.mpr nd1, fun k => (m1 k).trans (pm.map keyOfS).mem_iff.symm, hb2, hf3, hsz, hr3,
      hl.imp id fun z => by rw [hl3]; exact z⟩
  · exact wpAny_pure (hR _ sb1 ⟨_, es1, _, t2, ho1, hex, rfl, g1, nd1, m1, hb1, hf2, rfl, hr, hl⟩)
theorem setRS_add_hashed {k : Str} {tk : Tok} {Q : Bool → Shared → Prop} (R : SetRS w s.heap a S n) (room : n + 1 < scanBound)
    (hQ : ∀ h', Heap.SameBut a s.heap h' → SetRS w h' a (fun j => S j || decide (j = k)) (if S k = true then n else n + 1) → Q (!S k) { s with heap := h' }) :
    wpAny (model P w) A (setAddHashed a (.str k tk) ((PySem.strKind P w).hash k)) Q E s := by
  obtain ⟨o, es, ep, t, ho, hex, hd, g, nd, hm, hb, hf, hn, hr, hl⟩ := R
  have hkey : (PySem.strKind P w).is k (.str k tk) = true := PySem.strKind_is P w k tk
  have hsc : (Value.str k tk).scannable = true := rfl
  have hel : ElemsOf (PySem.strKind P w) es.toList := goodS_elems g
  unfold setAddHashed setAddHashedIn
  refine wpAny_holding (wpAny_bind (wpAny_setState_of ho hd hf ?_))
  dsimp only
  rw [byScan_of hsc hb hel]
  simp only [↓reduceIte]
  unfold setAddByScan
  refine wpAny_bind ?_
  refine wpAny_bind (wpAny_rule ?_)
  refine wpAny_bind (wpAny_setScan_of hkey ho hd hf hel ?_)
  cases hfi : List.findIdx? (fun e => (PySem.strKind P w).is k e.2) es.toList with
  | some j =>
    dsimp only
    obtain ⟨hj, pj, _⟩ := List.findIdx?_eq_some_iff_getElem.mp hfi
    have hSk : S k = true := (hm k).2 ((goodS_mem (P := P) (w := w) g k).2 ⟨es.toList[j], List.getElem_mem hj, pj⟩)
    refine wpAny_pure (wpAny_pure ?_)
    have q := hQ s.heap (Heap.SameBut.refl a s.heap) ⟨o, es, ep, t, ho, hex, hd, g, nd, fun i => by
      rw [Bool.or_eq_true, decide_eq_true_eq, ← hm i]
      exact ⟨fun z => z.elim id (fun e => e ▸ hSk), .inl⟩, hb, hf, by rw [if_pos hSk]; exact hn, hr, hl⟩
    rw [hSk] at q
    exact q
  | none =>
    dsimp only
    have hnk : k ∉ es.toList.map keyOfS := fun z => by
      obtain ⟨e, he, q⟩ := (goodS_mem (P := P) (w := w) g k).1 z
      have c := List.findIdx?_eq_none_iff.mp hfi e he
      rw [q] at c
      cases c
    have hSk : S k = false := by
      cases q : S k with
      | false => rfl
      | true => exact absurd ((hm k).1 q) hnk
    have hgw : ∀ (b : Bool) {s₁ : Shared} {Q' : Unit → Shared → Prop}, Q' () s₁ → wpAny (model P w) A (match b with | true => rule "set.scan.the-table-gave-way" | false => pure ()) Q' E s₁ :=
      fun b s₁ Q' q => by cases b <;> first | exact wpAny_pure q | exact wpAny_rule q
    have pm := layNew_perm t es ((PySem.strKind P w).hash k) (.str k tk)
    have hf1 := layNew_fits t es ((PySem.strKind P w).hash k) (.str k tk)
    have hr1 := layNew_ris t es ((PySem.strKind P w).hash k) (.str k tk) hr
    have hl1 := layNew_led t es ((PySem.strKind P w).hash k) (.str k tk)
    generalize layNew t es ((PySem.strKind P w).hash k) (.str k tk) = Z at pm hf1 hr1 hl1 ⊢
    obtain ⟨es1, t1, wasDummy, gave⟩ := Z
    dsimp only at pm hf1 hr1 hl1 ⊢
    rw [Array.toList_push] at pm
    have pc : es1.toList.Perm (((PySem.strKind P w).hash k, Value.str k tk) :: es.toList) := pm.trans (List.perm_append_singleton _ _)
    have pk : (es1.toList.map keyOfS).Perm (k :: es.toList.map keyOfS) := pc.map keyOfS
    have g1 : ∀ e ∈ es1.toList, GoodES w e := fun e he => by
      rcases List.mem_cons.mp (pc.mem_iff.mp he) with z | z
      · rw [z]; exact ⟨k, tk, rfl, rfl⟩
      · exact g e z
    have nd1 : (es1.toList.map keyOfS).Nodup := pk.nodup_iff.mpr (List.nodup_cons.mpr ⟨hnk, nd⟩)
    have m1 : ∀ i, (S i || decide (i = k)) = true ↔ i ∈ es1.toList.map keyOfS := fun i => by
      rw [Bool.or_eq_true, decide_eq_true_eq, hm i, pk.mem_iff, List.mem_cons]
      exact Or.comm
    have hsz : es1.size = n + 1 := by rw [← Array.length_toList, pc.length_eq, List.length_cons, Array.length_toList, hn]
    have hb1 : es1.size < scanBound := by rw [hsz]; exact room
    have hled : w.params.followText "set-order" = true ∨ t1.led = true := hl.imp id fun z => by rw [hl1]; exact z
    have fin : ∀ h', Heap.SameBut a s.heap h' → SetRS w h' a (fun j => S j || decide (j = k)) es1.size → Q true { s with heap := h' } := fun h' sb r => by
      have q := hQ h' sb
      rw [hSk] at q
      rw [hsz] at r
      exact q r
    refine wpAny_bind (hgw _ ?_)
    split
    · refine wpAny_bind ?_
      rw [hashByValue_scannable 8 hsc]
      refine wpAny_pure ?_
      refine setRS_add_tail ?_ ho hex hd g1 nd1 m1 hb1 ?_ ?_ ?_ ?_
      · intro b s₁ Q' q; cases b <;> first | exact wpAny_pure q | exact wpAny_rule q
      · first | (split <;> first | exact hf1 | exact SetTable.fits_plain_off hf1) | exact hf1
      · first | (split <;> exact hr1) | exact hr1
      · first | (split <;> exact hled) | exact hled
      · intro h' sb r; dsimp only; exact wpAny_pure (fin h' sb r)
    · refine wpAny_bind (wpAny_pure ?_)
      simp only [↓reduceIte]
      refine setRS_add_tail ?_ ho hex hd g1 nd1 m1 hb1 hf1 hr1 hled ?_
      · intro b s₁ Q' q; cases b <;> first | exact wpAny_pure q | exact wpAny_rule q
      · intro h' sb r; dsimp only; exact wpAny_pure (fin h' sb r)
end
theorem setRS_new_at {w : World} {h : Heap} {a : Addr} {ns : List Str} (ho : h.get? a = some { cls := .type "set", dict := none, data := .set #[] 0 (.fresh 0 0 (!w.params.followText "set-order")) }) : SetRS w h a (fun j => decide (j ∈ ns.take 0)) 0 :=
  ⟨_, #[], 0, _, ho, ⟨rfl, rfl, rfl⟩, rfl, (fun e he => by simp at he), (by simp), (fun k => by simp), (by decide), (by rfl), rfl, List.Pairwise.nil, by
    show _ ∨ (!w.params.followText "set-order") = true
    cases w.params.followText "set-order"
    · exact .inr rfl
    · exact .inl rfl⟩
section
variable {P : Program} {w : World} {A : Around} {E : Value → Shared → Prop} {s : Shared}
theorem set_update_strs {I : Addr} {fp wr : List Addr} {G : Array GenState → Array GenState → Prop} {n : Nat} {Pv : Nat → Value → Prop} {St : Nat → Shared → Prop} {R : Result → Shared → Prop}
    (W : WalksS P w A.in1 I fp wr G n Pv St) (S : Addr) (hSf : S ∉ fp) (ns : List Str) (hn : n = ns.length) (hb : ns.length + 1 < scanBound) (hval : ∀ i v, Pv i v → ∃ k t, ns[i]? = some k ∧ v = .str k t) :
    ∀ (k i : Nat) (s : Shared), n - i = k → i ≤ n → St i s → (∃ c, c ≤ i ∧ SetRS w s.heap S (fun j => decide (j ∈ ns.take i)) c) →
      (∀ s' c, Moved (S :: wr) G s s' → c ≤ n → SetRS w s'.heap S (fun j => decide (j ∈ ns)) c → R (.ok (.ret .none)) s') →
      codeAny (model P w) A (.builtin "set.update.loop" ⟨[.ref S, .ref I], []⟩) R s := by
  have hSw : S ∉ wr := fun h => hSf (W.sub _ h)
  have hsub : ∀ b ∈ wr, b ∈ S :: wr := fun b hb => List.mem_cons_of_mem _ hb
  intro k
  induction k with
  | zero =>
    intro i s hk' hi hst ⟨c, hc, hS⟩ hR
    have hin : i = n := by omega
    subst hin
    refine codeAny_builtin F.entry_set_update_loop ?_
    rw [Around.under_plainId F.plain_set_update_loop _]
    show wpAny _ A.in1 (pyNext (.ref I) >>= _) _ _ s
    refine wpAny_bind (W.done s _ _ hst fun s' hm => ?_)
    show wpAny _ A.in1 (PySem.ret Value.none) _ _ s'
    have e : ns.take i = ns := List.take_of_length_le (by omega)
    rw [e] at hS
    exact wpAny_pure (hR s' c (hm.mono hsub) hc (hS.at fun o e => hm.heap S o hSw e))
  | succ k ih =>
    intro i s hk' hi hst ⟨c, hc, hS⟩ hR
    have hlt : i < n := by omega
    refine codeAny_builtin F.entry_set_update_loop ?_
    rw [Around.under_plainId F.plain_set_update_loop _]
    show wpAny _ A.in1 (pyNext (.ref I) >>= _) _ _ s
    refine wpAny_bind (W.item i s _ _ hlt hst fun v s' hP hst' hm => ?_)
    obtain ⟨z, t, hz, rfl⟩ := hval i v hP
    have hS' : SetRS w s'.heap S (fun j => decide (j ∈ ns.take i)) c := hS.at fun o e => hm.heap S o hSw e
    show wpAny _ A.in1 (holding [Value.str z t] (setAdd S (.str z t)) >>= _) _ _ s'
    refine wpAny_bind (wpAny_holding ?_)
    unfold setAdd
    refine wpAny_holding ?_
    refine wpAny_bind ((PySem.strKind P w).pyHash (k := z) (PySem.strKind_is _ _ _ _) ?_)
    refine setRS_add_hashed (s := { s' with toks := s'.toks + 1 }) hS' (by omega) fun h' hsb hS2 => ?_
    have hS3 : SetRS w h' S (fun j => decide (j ∈ ns.take (i + 1))) (if decide (z ∈ ns.take i) = true then c else c + 1) := hS2.congr fun j => by
      rw [List.take_add_one, hz]
      simp [List.mem_append]
    have hc3 : (if decide (z ∈ ns.take i) = true then c else c + 1) ≤ i + 1 := by
      split <;> omega
    refine wpAny_pure ⟨plainId_quiet F.plain_set_update_loop _, ih (i + 1) _ (by omega) hlt (W.frame _ s' _ _ hst' (Nat.le_succ _) fun b hb o e => ?_) ⟨_, hc3, hS3⟩ fun s'' c2 hm'' hc'' hS'' => ?_⟩
    · rw [hsb.2 b (fun h : b = S => hSf (by rw [← h]; exact hb))]; exact e
    · refine hR s'' c2 (Moved.trans W.gtrans ((hm.mono hsub).then_heap (Nat.le_succ _) fun b o hb e => ?_) hm'') hc'' hS''
      rw [hsb.2 b (fun h : b = S => hb (by rw [h]; exact List.mem_cons_self))]; exact e
end
section
variable {P : Program} {w : World} {A : Around} {E : Value → Shared → Prop} {s : Shared}
set_option maxHeartbeats 8000000 in
theorem call_set_lstS {l : Addr} {items : Array Value} (ns : List Str) {Q : Value → Shared → Prop} (hh : A.handled = none) (hl : s.heap.IsList l items) (hit : StrsAre items.toList ns) (hb : ns.length + 1 < scanBound)
    (h : ∀ (h' : Heap) (tk c : Nat), SetRS w h' s.heap.objs.size (fun j => decide (j ∈ ns)) c → c ≤ ns.length → (∀ b o, s.heap.get? b = some o → h'.get? b = some o) → Q (.ref s.heap.objs.size) { s with heap := h', toks := tk }) :
    wpAny (model P w) A (call (.type "set") [.ref l]) Q E s := by
  have hisz : items.size = ns.length := by
    have q := StrsAre.length hit
    rw [Array.length_toList] at q
    exact q
  obtain ⟨c, tl, hmro⟩ := F.called_set.mro
  have hmade := F.called_set.made
  have hsub := F.called_set.sub
  refine wpAny_call (codeAny_of_tree ?_)
  show wpAny _ _ (callAny (.type "set") _) _ _ _
  refine wpAny_pure ⟨Code.quiet_builtin _ (by decide +kernel), codeAny_builtin F.entry_type_call ?_⟩
  rw [Around.under_plain (weight_type_call_type "set" [.ref l] []) rfl]
  have h1 := F.called_set.notType
  have h2 := F.called_set.canCreate
  have hct := F.typeCall_set_1 (.ref l)
  repeat (any_goals (first | assumption | wp_step))
  refine codeAny_mono (code_set_led1 (.ref l) (E := E) (Q₁ := fun obj s₁ => obj = .ref s.heap.objs.size ∧ s₁ = { s with heap := s.heap.push { cls := .type "set", dict := none, data := .set #[] 0 (.fresh 0 0 (!w.params.followText "set-order")) } }) ⟨rfl, rfl⟩) fun r s₁ hr => ?_
  cases r with
  | error e => exact hr
  | ok fl =>
    cases fl with
    | ret obj =>
      obtain ⟨rfl, rfl⟩ := hr
      have hS : (s.heap.push { cls := .type "set", dict := none, data := .set #[] 0 (.fresh 0 0 (!w.params.followText "set-order")) }).get? s.heap.objs.size = some { cls := .type "set", dict := none, data := .set #[] 0 (.fresh 0 0 (!w.params.followText "set-order")) } := Heap.get?_push_size _ rfl
      have hT : Shared.TypeIs { s with heap := s.heap.push { cls := .type "set", dict := none, data := .set #[] 0 (.fresh 0 0 (!w.params.followText "set-order")) } } (.ref s.heap.objs.size) "set" := ⟨_, hS, rfl⟩
      have hli := F.called_set.init.lookup
      have hbi := F.called_set.init.bind (.ref s.heap.objs.size)
      repeat (any_goals (first | assumption | wp_step))
      refine codeAny_mono (codeAny_call_builtin (R := wants (fun r s₂ => r = .none ∧ ∃ h' tk c, s₂ = { s with heap := h', toks := tk } ∧ SetRS w h' s.heap.objs.size (fun j => decide (j ∈ ns)) c ∧ c ≤ ns.length ∧
          (∀ b o, s.heap.get? b = some o → h'.get? b = some o)) E) F.called_set.init.plain F.entry_set_init (check_set_init_1 hT ?_)) fun r₂ s₂ hr₂ => ?_
      · obtain ⟨ol, hol, hcl, nl, hdl⟩ := hl
        obtain ⟨ocls, odict, odata, oslots⟩ := ol
        simp only at hcl hdl
        subst hcl; subst hdl
        have hol' : (s.heap.push { cls := .type "set", dict := none, data := .set #[] 0 (.fresh 0 0 (!w.params.followText "set-order")) }).get? l = some { cls := .type "list", dict := odict, data := .seq items nl, slots := oslots } := Heap.get?_push_of_some _ hol
        have hsls := F.sub_list_set
        have hslf := F.sub_list_frozenset
        have hne : (Value.type "list" == Value.type "dict") = false := by decide
        have hl1 : (s.heap.push { cls := .type "set", dict := none, data := .set #[] 0 (.fresh 0 0 (!w.params.followText "set-order")) }).IsList l items := ⟨_, hol', rfl, nl, rfl⟩
        unfold Builtin.«set.__init__» noKeywords Builtin.Frozenset.updateFrom
        generalize hPI : pyIter = PI
        wp_walk
        subst hPI
        refine wpAny_pyIter_list hl1 ?_
        refine wpAny_bind (wpAny_runValue ?_)
        have hlS : l < s.heap.objs.size := Heap.lt_size hol
        have hh3 : A.in1.in1.in1.handled = none := by simp [hh]
        have hneI : l ≠ (s.heap.push { cls := .type "set", dict := none, data := .set #[] 0 (.fresh 0 0 (!w.params.followText "set-order")) }).objs.size := by
          rw [Heap.size_push]; exact Nat.ne_of_lt (Nat.lt_succ_of_lt hlS)
        have hSf : s.heap.objs.size ∉ [(s.heap.push { cls := .type "set", dict := none, data := .set #[] 0 (.fresh 0 0 (!w.params.followText "set-order")) }).objs.size, l] := by
          rw [Heap.size_push]; simp only [List.mem_cons, List.mem_singleton, List.not_mem_nil, or_false, not_or]
          exact ⟨Nat.ne_of_lt (Nat.lt_succ_self _), Nat.ne_of_gt hlS⟩
        have hval : ∀ (i : Nat) (v : Value), items[i]? = some v → ∃ k t, ns[i]? = some k ∧ v = .str k t := fun i v hv => by
          have hi : i < ns.length := by rw [← hisz]; exact (Array.getElem?_eq_some_iff.mp hv).1
          obtain ⟨t, e⟩ := SS.strs_at hit i v (by rw [Array.getElem?_toList]; exact hv)
          refine ⟨ns[i], t, List.getElem?_eq_getElem hi, ?_⟩
          rw [e, List.getD_eq_getElem?_getD, List.getElem?_eq_getElem hi] <;> rfl
        refine set_update_strs ((Walks.list hh3 _ l hneI items).toS) s.heap.objs.size
          hSf ns hisz hb hval (items.size - 0) 0 _ (by omega) (Nat.zero_le _)
          ⟨⟨_, Heap.get?_push_size _ rfl, rfl, rfl⟩, (hl1.push _)⟩ ?hS0 ?hR
        case hS0 =>
          have hget : ((s.heap.push { cls := .type "set", dict := none, data := .set #[] 0 (.fresh 0 0 (!w.params.followText "set-order")) }).push { cls := .type "list_iterator", data := .fields #[.ref l, .int 0 0] }).get? s.heap.objs.size
              = some { cls := .type "set", dict := none, data := .set #[] 0 (.fresh 0 0 (!w.params.followText "set-order")) } := Heap.get?_push_of_some _ hS
          exact ⟨0, Nat.le_refl 0, setRS_new_at hget⟩
        case hR =>
          intro s' c' hm hc' hS'
          obtain ⟨h', g2, d', tk', os'⟩ := s'
          have eg : g2 = s.gens := hm.gens
          have ed : d' = s.drawn := hm.drawn
          have eo : os' = s.os := hm.os
          subst eg; subst ed; subst eo
          show wpAny _ _ _ _ _ _
          refine wpAny_pure ?_
          show wpAny _ _ (PySem.ret Value.none) _ _ _
          rw [hisz] at hc'
          refine wpAny_pure ⟨rfl, h', tk', c', rfl, hS', hc', fun b o e => ?_⟩
          have hb0 : b < s.heap.objs.size := Heap.lt_size e
          have hb1 : b ≠ s.heap.objs.size := Nat.ne_of_lt hb0
          have hb2 : b ≠ (s.heap.push { cls := .type "set", dict := none, data := .set #[] 0 (.fresh 0 0 (!w.params.followText "set-order")) }).objs.size := by
            rw [Heap.size_push]; exact Nat.ne_of_lt (Nat.lt_succ_of_lt hb0)
          exact hm.heap b o (by simp only [List.mem_cons, List.mem_singleton, List.not_mem_nil, or_false, not_or]; exact ⟨hb1, hb2⟩) (Heap.get?_push_of_some _ (Heap.get?_push_of_some _ e))
      · cases r₂ with
        | error e => exact hr₂
        | ok fl₂ =>
          cases fl₂ with
          | ret r =>
            obtain ⟨rfl, h', tk, c', rfl, hS', hc', hk'⟩ := hr₂
            repeat (any_goals (first | assumption | wp_step))
            exact h _ _ _ hS' hc' hk'
          | _ => exact hr₂.elim
    | _ => exact hr.elim
end
section
variable {P : Program} {w : World} {A : Around} {E : Value → Shared → Prop} {s : Shared}
end
section
variable {X : Cx}
end
section
variable {X : Cx} {cf : Cf} {W : WX} {c : Cls} {n n1 n2 : Bool}
end
end MV
namespace Ov
open PySem MV
end Ov
namespace MV
open PySem PySem.Spec PyProof.Rows L2
section
variable {X : Cx} {cf : Cf} {W : WX} {c : Cls} {n n1 n2 : Bool}
end
section
variable {P : Program} {w : World} {K : PySem.W.Frag} {mg : Str → Option Value} {base : Heap}
end
end MV
namespace MV
open PySem PySem.Spec PyProof.Rows L2
section
variable {prog : Program} {w : World} {A : Around} {E : Value → Shared → Prop} {s : Shared}
end
section
variable {X : Cx} {cf : Cf} {W : WX} {c : Cls} {n n1 n2 : Bool}
def tgL (is : List Nat) : D → M Unit := fun d e => match d with
  | .lst ds => match setAll is ds e with
    | some e' => .ok () e'
    | none => .stuck
  | _ => .stuck
@[simp] theorem r_tgL {is : List Nat} {ds : List D} {e : PEnv} : tgL is (.lst ds) e = ro (setAll is ds e) fun e' => .ok () e' := by
  cases q : setAll is ds e <;> simp [tgL, ro, q]
end
end MV
namespace Ov
open PySem MV
end Ov
namespace MV
open PySem PySem.Spec PyProof.Rows L2
theorem args_sum2 (a b : Value) : argsOk "sum" ⟨[a, b], []⟩ := by unfold argsOk; kernel_rfl
section
variable {prog : Program} {w : World} {A : Around} {R : Result → Shared → Prop}
theorem add_listW {l b : Addr} {xs ys : Array Value} {s : Shared} {E : Value → Shared → Prop} {Q : Value → Shared → Prop} (hl : s.heap.IsList l xs) (hb : s.heap.IsList b ys)
    (h : Q (.ref s.heap.objs.size) { s with heap := s.heap.push { cls := .type "list", data := .seq (xs ++ ys) } }) (hsz : xs.size + ys.size ≤ sizeLine) : wpAny (model prog w) A (binaryOp .Add (.ref l) (.ref b)) Q E s := by
  obtain ⟨⟨cls, dd, data, sl⟩, ho, hc, n, hd⟩ := id hl
  obtain ⟨⟨cls2, dd2, data2, sl2⟩, ho2, hc2, n2, hd2⟩ := id hb
  simp only at hc hd hc2 hd2
  subst hc hd hc2 hd2
  exact concat_meets ⟨_, ho, rfl⟩ ⟨_, ho2, rfl⟩ noFill_list_add seq_list_add PySem.F.slot_list_add PySem.F.entry_list_add (PySem.F.args_list_add_2 _ _) (list_addW l b xs ys n n2 dd dd2 sl sl2 hsz) ⟨ho, ho2, h⟩
theorem sum_loop_lists {I l S : Addr} (items : Array Value) (ys : List (List Value)) (hh : A.handled = none) (hlI : l ≠ I) (hSI : S ≠ I) (hSl : S ≠ l) (hys : ys.length = items.size) :
    ∀ (k i : Nat) (s : Shared) (cur : Addr) (acc : List Value) (c : Nat), items.size - i = k → i ≤ items.size → s.heap.IsListIter I l i → s.heap.IsList l items →
      s.heap.get? S = some { cls := .type "list", dict := none, data := .seq #[.ref cur] c, slots := #[] } → cur ≠ I → cur ≠ S → s.heap.IsList cur acc.toArray → acc.length + (ys.drop i).flatten.length ≤ sizeLine →
      (∀ (j : Nat) (ws : List Value), ys[j]? = some ws → ∃ b : Addr, items[j]? = some (.ref b) ∧ b ≠ I ∧ b ≠ S ∧ s.heap.IsList b ws.toArray) →
      (∀ h' cur', (∀ b o, b ≠ I → b ≠ S → s.heap.get? b = some o → h'.get? b = some o) → ((cur' = cur ∧ i = items.size) ∨ (s.heap.objs.size ≤ cur' ∧ h'.PlainList cur' (acc ++ (ys.drop i).flatten).toArray)) → R (.ok (.ret (.ref cur'))) { s with heap := h' }) →
      codeAny (model prog w) A (.builtin "sum.loop" ⟨[.ref I, .ref S, rawInt 2, rawInt 0], []⟩) R s := by
  intro k
  induction k with
  | zero =>
    intro i s cur acc c hk hi hit hl hS cI cS hcur hsz hb hR
    have hin : i = items.size := by omega
    refine codeAny_builtin PySem.F.entry_sum_loop ?_
    rw [Around.under_plainId PySem.F.plain_sum_loop _]
    show wpAny _ A.in1 (seqItems? (.ref S) >>= _) _ _ s
    refine wpAny_bind (wpAny_seqItems hS rfl ?_)
    show wpAny _ A.in1 (tryCatch (pyNext (.ref I)) _ >>= _) _ _ s
    refine wpAny_bind (wpAny_tryCatch (wpAny_pyNext_list_end hh hit hl (by simp [hin]) fun h1 he1 => ?_))
    have hR := hR h1 cur (fun b o nI nS e => he1 b o nI e) (.inl ⟨rfl, hin⟩)
    exact wpAny_pure hR
  | succ k ih =>
    intro i s cur acc c hk hi hit hl hS cI cS hcur hsz hb hR
    have hlt : i < items.size := by omega
    have hly : i < ys.length := by omega
    obtain ⟨b, hx, bI, bS, hbp⟩ := hb i ys[i] (List.getElem?_eq_getElem hly)
    have dr : ys.drop i = ys[i] :: ys.drop (i + 1) := List.drop_eq_getElem_cons hly
    rw [dr, List.flatten_cons, List.length_append] at hsz
    refine codeAny_builtin PySem.F.entry_sum_loop ?_
    rw [Around.under_plainId PySem.F.plain_sum_loop _]
    show wpAny _ A.in1 (seqItems? (.ref S) >>= _) _ _ s
    refine wpAny_bind (wpAny_seqItems hS rfl ?_)
    show wpAny _ A.in1 (tryCatch (pyNext (.ref I)) _ >>= _) _ _ s
    refine wpAny_bind (wpAny_tryCatch (wpAny_pyNext_list_item hit hl (x := .ref b) hx fun h1 hit1 sb1 => ?_))
    have k1 : ∀ a o, a ≠ I → s.heap.get? a = some o → h1.get? a = some o := fun a o z e => sb1.extBut a o z e
    have c1 := hcur.at fun o e => k1 cur o cI e
    have c2 := hbp.at fun o e => k1 b o bI e
    show wpAny _ A.in1 ((holding [Value.ref b] (binaryOp .Add (.ref cur) (.ref b))).attempt >>= _) _ _ _
    refine wpAny_bind (wpAny_attempt (wpAny_holding (add_listW c1 c2 ?_ (by rw [List.size_toArray, List.size_toArray]; omega))))
    have hS1 : h1.get? S = _ := k1 S _ hSI hS
    have hS2 : (h1.push { cls := .type "list", data := .seq (acc.toArray ++ ys[i].toArray) }).get? S = _ := Heap.get?_push_of_some _ hS1
    show wpAny _ A.in1 (updateSeq S (fun _ => #[.ref h1.objs.size]) >>= _) _ _ _
    refine wpAny_bind (wpAny_updateSeq hS2 rfl ?_)
    have hS3 := Heap.get?_update_self (Obj.mapSeq fun _ => #[Value.ref h1.objs.size]) hS2 rfl
    refine wpAny_bind (wpAny_letGo ?_)
    have z1 : h1.objs.size = s.heap.objs.size := sb1.1
    have lS : S < s.heap.objs.size := Heap.lt_size hS
    have nS : h1.objs.size ≠ S := Nat.ne_of_gt (by rw [z1]; exact lS)
    have lI : I < s.heap.objs.size := by obtain ⟨o, ho, _⟩ := hit; exact Heap.lt_size ho
    have nI : h1.objs.size ≠ I := Nat.ne_of_gt (by rw [z1]; exact lI)
    have k2 : ∀ a o, a ≠ I → a ≠ S → s.heap.get? a = some o → (((h1.push { cls := .type "list", data := .seq (acc.toArray ++ ys[i].toArray) }).update S (Obj.mapSeq fun _ => #[Value.ref h1.objs.size])).update S (Obj.mapSeq fun _ => #[Value.ref h1.objs.size])).get? a = some o := fun a o aI aS e => by
      rw [Heap.get?_update_other _ _ (Ne.symm aS), Heap.get?_update_other _ _ (Ne.symm aS)]
      exact Heap.get?_push_of_some _ (k1 a o aI e)
    have k3 : ∀ a o, a ≠ S → h1.get? a = some o → (((h1.push { cls := .type "list", data := .seq (acc.toArray ++ ys[i].toArray) }).update S (Obj.mapSeq fun _ => #[Value.ref h1.objs.size])).update S (Obj.mapSeq fun _ => #[Value.ref h1.objs.size])).get? a = some o := fun a o aS e => by
      rw [Heap.get?_update_other _ _ (Ne.symm aS), Heap.get?_update_other _ _ (Ne.symm aS)]
      exact Heap.get?_push_of_some _ e
    refine wpAny_bind (wpAny_updateSeq hS3 rfl (wpAny_pure ⟨plainId_quiet PySem.F.plain_sum_loop _, ih (i + 1) _ h1.objs.size (acc ++ ys[i]) _ (by omega) (by omega) ?_ ?_ (Heap.get?_update_self _ hS3 rfl) nI nS ?_ ?_ ?_ ?_⟩))
    · exact hit1.at fun o e => k3 I o (Ne.symm hSI) e
    · exact hl.at fun o e => k2 l o hlI (Ne.symm hSl) e
    · refine Heap.PlainList.isList ⟨0, ?_⟩
      rw [Heap.get?_update_other _ _ (Ne.symm nS), Heap.get?_update_other _ _ (Ne.symm nS), ← List.append_toArray]
      exact Heap.get?_push_size _ rfl
    · rw [List.length_append]; omega
    · intro j ws hj
      obtain ⟨b', h1', h2', h3', h4'⟩ := hb j ws hj
      exact ⟨b', h1', h2', h3', h4'.at fun o e => k2 b' o h2' h3' e⟩
    · intro h' cur' kp ge
      rw [dr, List.flatten_cons, ← List.append_assoc] at hR
      refine hR h' cur' (fun b o nI nS e => kp b o nI nS (k2 b o nI nS e)) (.inr ?_)
      rcases ge with ⟨ge, ie⟩ | ⟨ge, pl⟩
      · refine ⟨by rw [ge, z1]; exact Nat.le_refl _, ?_⟩
        have e0 : ys.drop (i + 1) = [] := List.drop_of_length_le (by omega)
        rw [e0, List.flatten_nil, List.append_nil, ge]
        refine ⟨0, kp _ _ nI nS ?_⟩
        rw [Heap.get?_update_other _ _ (Ne.symm nS), Heap.get?_update_other _ _ (Ne.symm nS), ← List.append_toArray]
        exact Heap.get?_push_size _ rfl
      · refine ⟨?_, pl⟩
        rw [Heap.size_after_update, Heap.size_after_update, size_push', z1] at ge
        exact Nat.le_of_succ_le ge
theorem call_sum_lists {l e : Addr} {items : Array Value} {s : Shared} {E : Value → Shared → Prop} {Q : Value → Shared → Prop} (ys : List (List Value)) (hh : A.handled = none) (hl : s.heap.IsList l items) (he : s.heap.IsList e #[]) (hn : 0 < items.size) (hys : ys.length = items.size) (hz : ys.flatten.length ≤ sizeLine)
    (hb : ∀ (j : Nat) (ws : List Value), ys[j]? = some ws → ∃ b : Addr, items[j]? = some (.ref b) ∧ s.heap.IsList b ws.toArray)
    (h : ∀ (h' : Heap) (p : Addr), (∀ b o, s.heap.get? b = some o → h'.get? b = some o) → s.heap.objs.size ≤ p → h'.PlainList p ys.flatten.toArray → Q (.ref p) { s with heap := h' }) :
    wpAny (model prog w) A (call (.builtin "sum") [.ref l, .ref e]) Q E s := by
  refine call_function_tree PySem.F.kind_sum PySem.F.plain_sum PySem.F.entry_sum (args_sum2 _ _) ?_
  unfold Builtin.«sum»
  simp only [List.length_cons, List.length_nil]
  rw [if_neg (by decide)]
  refine wpAny_bind (wpAny_of_eq (show Builtin.Builtins.bindParams "sum" ["start"] 0 { pos := [.ref e], kw := [] } = pure [some (.ref e)] from rfl) ?_)
  refine wpAny_bind (wpAny_pyIter_list hl ?_)
  refine wpAny_bind (wpAny_pure ?_)
  have hee := he
  obtain ⟨o0, he0, hc0, n0, hd0⟩ := he
  have he1 : (s.heap.push { cls := .type "list_iterator", data := .fields #[.ref l, .int 0 0] }).get? e = some o0 := Heap.get?_push_of_some _ he0
  simp only [List.forIn_cons, List.forIn_nil]
  refine wpAny_bind (wpAny_bind (wpAny_bind (wpAny_isInstance (T := "list") (b := false) ⟨_, he1, hc0⟩ PySem.F.sub_list_str ?_)))
  simp only [Bool.false_eq_true, if_false]
  refine wpAny_pure (wpAny_bind (wpAny_bind (wpAny_isInstance (T := "list") (b := false) ⟨_, he1, hc0⟩ PySem.F.sub_list_bytes ?_)))
  simp only [Bool.false_eq_true, if_false]
  refine wpAny_pure (wpAny_bind (wpAny_bind (wpAny_isInstance (T := "list") (b := false) ⟨_, he1, hc0⟩ PySem.F.sub_list_bytearray ?_)))
  simp only [Bool.false_eq_true, if_false]
  refine wpAny_pure (wpAny_pure ?_)
  refine wpAny_bind (wpAny_newObj_type ?_)
  have lt0 : ∀ {a o}, s.heap.get? a = some o → a < s.heap.objs.size := fun e => Heap.lt_size e
  have el : l < s.heap.objs.size := by obtain ⟨o, ho, _⟩ := hl; exact lt0 ho
  have sz1 : (s.heap.push { cls := .type "list_iterator", data := .fields #[.ref l, .int 0 0] }).objs.size = s.heap.objs.size + 1 := size_push' _ _
  have kp : ∀ b o, s.heap.get? b = some o → ((s.heap.push { cls := .type "list_iterator", data := .fields #[.ref l, .int 0 0] }).push { cls := .type "list", data := .seq [Value.ref e].toArray }).get? b = some o := fun b o q => Heap.get?_push_of_some _ (Heap.get?_push_of_some _ q)
  refine wpAny_pure ⟨plainId_quiet PySem.F.plain_sum_loop _, sum_loop_lists (I := s.heap.objs.size) (l := l) (S := (s.heap.push { cls := .type "list_iterator", data := .fields #[.ref l, .int 0 0] }).objs.size) items ys (by simp [hh]) (Nat.ne_of_lt el) (by rw [sz1]; exact Nat.ne_of_gt (Nat.lt_succ_self _)) (by rw [sz1]; exact Nat.ne_of_gt (Nat.lt_succ_of_lt el)) hys _ 0 _ e [] 0 rfl (Nat.zero_le _) ⟨_, Heap.get?_push_of_some _ (Heap.get?_push_size _ rfl), rfl, rfl⟩ ((hl.push _).push _) (Heap.get?_push_size _ rfl) (Nat.ne_of_lt (lt0 he0)) (by rw [sz1]; exact Nat.ne_of_lt (Nat.lt_succ_of_lt (lt0 he0))) (hee.at fun o q => kp e o q) (by rw [List.drop_zero, List.length_nil, Nat.zero_add]; exact hz) (fun j ws hj => ?_) fun h' p k2 ge => ?_⟩
  · obtain ⟨b, b1, b2⟩ := hb j ws hj
    have lb : b < s.heap.objs.size := by obtain ⟨o, z, _⟩ := b2; exact lt0 z
    exact ⟨b, b1, Nat.ne_of_lt lb, by rw [sz1]; exact Nat.ne_of_lt (Nat.lt_succ_of_lt lb), b2.at fun o q => kp b o q⟩
  · rcases ge with ⟨_, z⟩ | ⟨ge, pl⟩
    · omega
    · refine h h' p (fun b o q => k2 b o (Nat.ne_of_lt (lt0 q)) (by rw [sz1]; exact Nat.ne_of_lt (Nat.lt_succ_of_lt (lt0 q))) (kp b o q)) ?_ (by rw [List.drop_zero, List.nil_append] at pl; exact pl)
      refine Nat.le_trans ?_ ge
      show s.heap.objs.size ≤ ((s.heap.push _).push _).objs.size
      rw [size_push', size_push']; omega
end
inductive SqLs (K : PySem.W.Frag) (H : Hp) : List V → List (List V) → Prop
  | nil : SqLs K H [] []
  | cons {b : Addr} {ws : List V} {vs : List V} {yss : List (List V)} : SqL K H b ws → SqLs K H vs yss → SqLs K H (.ref b :: vs) (ws :: yss)
def rSumLL (K : PySem.W.Frag) : List V → Hp → VK → Prop := fun xs H Q => ∃ (l e : Addr) (vs : List V) (yss : List (List V)), xs = [.ref l, .ref e] ∧ SqL K H l vs ∧ SqL K H e [] ∧ SqLs K H vs yss ∧ vs ≠ [] ∧ yss.flatten.length ≤ sizeLine ∧ ∀ p, H p = none → Q (.ref p) (upd H p (.lst yss.flatten))
section
variable {X : Cx}
theorem sqLs_vals {pins : List (Addr × Obj)} {σ : L2.St} {H : Hp} {s : Shared} (I : Inv X pins σ H s) : ∀ {vs : List V} {yss : List (List V)} {us : List Value}, SqLs X.K H vs yss → Vals vs us → ∃ ys : List (List Value), ys.length = us.length ∧ (∀ (j : Nat) (its : List Value), ys[j]? = some its → ∃ b : Addr, us[j]? = some (.ref b) ∧ s.heap.IsList b its.toArray) ∧ Vals yss.flatten ys.flatten
  | _, _, _, .nil, r => by
    cases r
    exact ⟨[], rfl, fun j its h => by simp at h, .nil⟩
  | _, _, _, .cons h hs, r => by
    cases r with
    | cons r1 r2 =>
      obtain ⟨ys, h1, h2, h3⟩ := sqLs_vals I hs r2
      obtain ⟨its, rv, pl, hz⟩ := I.list h
      cases r1
      refine ⟨its :: ys, by rw [List.length_cons, List.length_cons, h1], fun j it hj => ?_, ?_⟩
      · cases j with
        | zero =>
          have : its = it := by simpa using hj
          subst this
          exact ⟨_, rfl, pl.isList⟩
        | succ j => exact h2 j it (by simpa using hj)
      · rw [List.flatten_cons, List.flatten_cons]; exact rv.append h3
theorem cr_sumLL (hc : X.calm = true) : CallR X (.builtin "sum") (rSumLL X.K) := by
  intro pins s σ H xs us Q I r h
  obtain ⟨l, e, vs, yss, rfl, hl, he, hs, n0, hz, q⟩ := h
  obtain ⟨its, rv, pl, _⟩ := I.list hl
  obtain ⟨its2, rv2, pl2, _⟩ := I.list he
  cases rv2
  obtain ⟨ys, h1, h2, h3⟩ := sqLs_vals I hs rv
  cases r with
  | cons ra r =>
    cases r with
    | cons rb r =>
      cases r
      cases ra
      cases rb
      have ln : 0 < its.toArray.size := by
        rw [List.size_toArray, ← rv.length]
        exact List.length_pos_iff.mpr n0
      refine call_sum_lists ys (I.ok.hd hc) pl.isList pl2.isList ln (by rw [List.size_toArray]; exact h1) (by rw [← h3.length]; exact hz) (fun j ws hj => by
        obtain ⟨b, b1, b2⟩ := h2 j ws hj
        exact ⟨b, by rw [List.getElem?_toArray]; exact b1, b2⟩) fun h' p k ge hp => ?_
      obtain ⟨n, hp⟩ := hp
      exact ⟨.ref p, upd H p (.lst yss.flatten), I.laid (t' := s.toks) k ge ⟨hz, _, n, h3, hp⟩, rfl, q _ (I.hok.fresh ge)⟩
end
def asLL : List D → Option (List (List D))
  | [] => some []
  | .lst ds :: r => (asLL r).map (ds :: ·)
  | _ => none
theorem asLL_map {α : Type} (φ : α → List D) (l : List α) : asLL (l.map fun x => .lst (φ x)) = some (l.map φ) := by
  induction l with
  | nil => rfl
  | cons n ns ih => rw [List.map_cons, asLL, ih]; rfl
theorem SqLs.mono {K : PySem.W.Frag} {G H : Hp} (e : Ex G H) : ∀ {xs : List V} {ds : List D} {ess : List (List D)}, RpL K true G xs ds → asLL ds = some ess → ∃ yss, SqLs K H xs yss ∧ RpL K true G yss.flatten ess.flatten
  | _, _, _, .nil, q => by rw [asLL] at q; cases q; exact ⟨[], .nil, .nil⟩
  | _, d :: ds, ess, .cons h r, q => by
    cases d with
    | lst es =>
      rw [asLL] at q
      cases z : asLL ds with
      | none => rw [z] at q; cases q
      | some ms =>
        rw [z] at q
        cases q
        obtain ⟨yss, h1, h2⟩ := SqLs.mono e r z
        obtain ⟨a, ys, rfl, s1, r1⟩ := h.lst_inv
        exact ⟨ys :: yss, .cons (.inl (.inl (e _ _ s1))) h1, by rw [List.flatten_cons, List.flatten_cons]; exact r1.append h2⟩
    | _ => rw [asLL] at q <;> first | cases q | (intros; rintro ⟨⟩)
def gSumL : List D → Option D
  | [.lst ds, .lst es] => match asLL ds, es with
    | some (e :: r), [] => if (e :: r).flatten.length ≤ LIM then some (.lst (e :: r).flatten) else none
    | _, _ => none
  | _ => none
theorem snd_sumL {K : PySem.W.Frag} : SndN K true (rSumLL K) gSumL := fun G H xs ds d e h q Q k => by
  unfold gSumL at q
  split at q
  · rename_i es fs
    split at q
    · rename_i e1 r1 q1
      split at q
      · rename_i hl
        cases q
        cases h with
        | cons h1 h2 =>
          cases h2 with
          | cons h2 h3 =>
            cases h3
            obtain ⟨a, vs, rfl, s1, p1⟩ := h1.lst_inv
            obtain ⟨b, ws, rfl, s2, p2⟩ := h2.lst_inv
            cases p2
            obtain ⟨yss, y1, y2⟩ := SqLs.mono e p1 q1
            refine ⟨a, b, vs, yss, rfl, .inl (.inl (e _ _ s1)), .inl (.inl (e _ _ s2)), y1, fun z => ?_, by rw [y2.length]; exact lim_sz hl, fun p hp => k _ _ (Ex.new hp) (new_rp e hp y2) (new_nn (G := G) hp y2)⟩
            subst z
            cases p1
            rw [asLL] at q1; cases q1
      · cases q
    · cases q
  · cases q
section
variable {X : Cx} {cf : Cf} {W : WX} {c : Cls} {n n1 n2 : Bool}
theorem se_sumL {e e2 : Expr} {ta : TA} {fa : M (List D)} {p pos : Pos} (hK : cf.K = X.K) (hc : X.calm = true) (hm : X.mg "sum" = none) (ha : SA X cf W c [e, e2] ta fa) (hg : Gl X "sum" := by rfl) (he : starEach [e, e2] X.env = (false, eval e X.env) :: starEach [e2] X.env := by rfl) (hpl : (backTo pos (starEach [e2] X.env)).any (·.1) = false := by rfl) :
    SE X cf W c true (.Call (.Name "sum" p) [e, e2] [] pos) (tCB (rSumLL cf.K) ta) (eN gSumL fa) :=
  se_cb (by rw [hK]; exact cr_sumLL hc) snd_sumL hg hm (by first | rfl | decide +kernel) ha (by decide) (by decide) he hpl
end
end MV
namespace Ov
open PySem MV
def T__law_tree_right_l1 : M Bool := (tB (e2 gGt (eV 6) (eC (.int 0))))
def B__law_tree_right_l2 : M Fl := (sSeq (sApp 5 (eS (eV 6)))
  (sSeq (sIf (tB (e2 gNotIn (eV 6) (e2 gIx (eV 3) (e2 gIx (eV 4) (e2 gSub (eV 6) (eC (.int 1))))))) (sRet (eC (.bl false))) sSkip)
  (sSet 6 (e2 gIx (eV 4) (e2 gSub (eV 6) (eC (.int 1)))))))
def B__law_tree_right : M Fl := (sSeq (sSet 2 (eN gLen (aCons (eV 0) aNil)))
  (sSeq (sSet 3 (eCall F_cover_tree (aCons (eV 0) aNil)))
  (sSeq (sSet 4 (eCall F_greatest_covers (aCons (eV 0) aNil)))
  (sSeq (sSetM 5 (eN gLst aNil))
  (sSeq (sSet 6 (eV 2))
  (sSeq (sWhile T__law_tree_right_l1 B__law_tree_right_l2 WFUEL)
  (sSeq (sIf (tOr2 (tB (e2 gNe (e1 gRev (eV 5)) (eV 1))) (tB (e2 gNe (e2 gIx (eCall F_how_many_covers (aCons (eV 0) aNil)) (e1 gNeg (eC (.int 1)))) (eN gLen (aCons (eV 1) aNil))))) (sRet (eC (.bl false))) sSkip)
  (sRet (eAndV (e2 gEq (e2 gIx (eCall F_shortest_covers (aCons (eV 0) aNil)) (e1 gNeg (eC (.int 1)))) (e2 gIx (eV 1) (eC (.int 0)))) (e2 gEq (eF (eN gSorted (aCons (eN gSumL (aCons (eV 3) (aCons (eN gLst aNil) aNil))) aNil))) (e2 gLR2 (eC (.int 1)) (e2 gAdd (eV 2) (eC (.int 1))))))))))))))
def F__law_tree_right : List D → FR := runF 7 B__law_tree_right
def B__law_layings_right_l1 : M Fl := (sIf (tB (e2 gNotB (eCall F_is_laying (aCons (eV 0) (aCons (eV 1) (aCons (e2 gAdd (eSl (eV 3) oNone (oSome (eV 4))) (eSl (eV 3) (oSome (e2 gAdd (eV 4) (eC (.int 1)))) oNone)) aNil)))) (eC (.bl false)))) (sRet (eC (.bl false))) sSkip)
def B__law_layings_right : M Fl := (sSeq (sSet 2 (e2 gIx (eCall F_covered (aCons (eV 0) (aCons (eV 1) aNil))) (eC (.int 1))))
  (sSeq (sSet 3 (eCall F_fewest_layings (aCons (eV 0) (aCons (eV 1) aNil))))
  (sSeq (sIf (tOr2 (tB (e2 gNotB (eCall F_is_laying (aCons (eV 0) (aCons (eV 1) (aCons (eV 2) aNil)))) (eC (.bl true)))) (tB (e2 gNotB (eCall F_is_laying (aCons (eV 0) (aCons (eV 1) (aCons (eV 3) aNil)))) (eC (.bl true))))) (sRet (eC (.bl false))) sSkip)
  (sSeq (sFor (iN gR1 (aCons (eN gLen (aCons (eV 3) aNil)) aNil)) (tgN 4) B__law_layings_right_l1)
  (sSeq (sSet 5 (eCall F_how_many_layings_v2 (aCons (eV 0) (aCons (eV 1) aNil))))
  (sRet (eAndV (e2 gGe (eV 5) (eC (.int 1))) (e2 gEq (e2 gEq (eV 5) (eC (.int 1))) (e2 gEq (eV 3) (eV 2))))))))))
def F__law_layings_right : List D → FR := runF 6 B__law_layings_right
def B__law_covers_right_l1 : M Fl := (sSeq (sIf (tOr2 (tB (e2 gNotIn (eV 4) (eCall F_borders (aCons (eV 1) aNil)))) (tB (e2 gNe (e2 gIx (eCall F_covered (aCons (eV 1) (aCons (eSl (eV 1) oNone (oSome (eV 4))) aNil))) (eC (.int 0))) (eC (.str (Str.ofString "covers")))))) (sRet (eC (.bl false))) sSkip)
  (sSeq (sIf (tB (e2 gNe (eCall F_all_covers (aCons (eSl (eV 1) oNone (oSome (eV 4))) aNil)) (eSl (eV 2) oNone (oSome (e2 gAdd (eM "list" gIndex (eV 2) (aCons (eV 4) aNil)) (eC (.int 1))))))) (sRet (eC (.bl false))) sSkip)
  (sIf (tB (e2 gNotIn (eN gLen (aCons (eV 1) aNil)) (eCall F_covered_beginnings (aCons (eV 1) (aCons (eSl (eV 1) oNone (oSome (eV 4))) aNil))))) (sRet (eC (.bl false))) sSkip)))
def B__law_covers_right : M Fl := (sSeq (sSet 3 (eSl (eV 2) oNone (oSome (e1 gNeg (eC (.int 1))))))
  (sSeq (sIf (tAnd2 (tB (e2 gGt (eN gLen (aCons (eV 1) aNil)) (eC (.int 40)))) (tB (e2 gNe (eV 3) (eN gLst aNil)))) (sSet 3 (eLc [8] (iN gR1 (aCons (eC (.int 6)) aNil)) (tgN 8) tTrue (e2 gIx (eV 2) (eCallW F__law_take 0 (aCons (e2 gSub (eN gLen (aCons (eV 2) aNil)) (eC (.int 1))) aNil))))) sSkip)
  (sSeq (sFor (iL (eV 3)) (tgN 4) B__law_covers_right_l1)
  (sSeq (sIf (tOr2 (tB (e2 gNotB (eCall F_is_bare (aCons (eSl (eV 1) oNone (oSome (e2 gIx (eV 2) (eC (.int 0))))) aNil)) (eC (.bl true)))) (tB (e2 gNe (eCall F_is_bare (aCons (eV 1) aNil)) (e2 gEq (eN gLen (aCons (eV 2) aNil)) (eC (.int 1)))))) (sRet (eC (.bl false))) sSkip)
  (sSeq (sIf (tB (e2 gNe (eCall F_shortest_cover (aCons (eV 1) aNil)) (e2 gIx (eV 2) (eC (.int 0))))) (sRet (eC (.bl false))) sSkip)
  (sSeq (sSet 5 (eCallW F__law_renamed_v3 0 aNil))
  (sSeq (sSet 6 (eLc [7] (iL (eV 1)) (tgN 7) tTrue (e2 gDIx (eV 5) (eV 7))))
  (sRet (eAndV (e2 gEq (eCall F_all_covers (aCons (e1 gRev (eV 1)) aNil)) (eV 2)) (e2 gEq (eCall F_all_covers (aCons (eV 6) aNil)) (eV 2)))))))))))
def F__law_covers_right : List D → FR := runF 9 B__law_covers_right
def B_law_k15_l1 : M Fl := (sSeq (sSetW 2 (eCall F__law_hand (aCons (eV 1) aNil)))
  (sSeq (sSet 3 (eCallW F__law_letters 2 aNil))
  (sSeq (sSet 4 (eSl (eOrT (eCallW F__law_text 2 (aCons (eV 3) aNil)) (eN gLst (aCons (e2 gIx (eV 3) (eC (.int 0))) aNil))) oNone (oSome (eC (.int 200)))))
  (sSeq (sSet 5 (eCall F_all_covers (aCons (eV 4) aNil)))
  (sSeq (sIf (tOr2 (tB (e2 gNe (e2 gIx (eV 5) (e1 gNeg (eC (.int 1)))) (eN gLen (aCons (eV 4) aNil)))) (tNot1 (tB (eCall F__law_tree_right (aCons (eV 4) (aCons (eV 5) aNil)))))) (sRet (eC (.bl false))) sSkip)
  (sSeq (sIf (tNot1 (tB (eCallW F__law_covers_right 2 (aCons (eV 4) (aCons (eV 5) aNil))))) (sRet (eC (.bl false))) sSkip)
  (sIf (tNot1 (tB (eCall F__law_layings_right (aCons (eV 4) (aCons (eSl (eV 4) oNone (oSome (e2 gIx (eV 5) (eCallW F__law_take 2 (aCons (eN gLen (aCons (eV 5) aNil)) aNil))))) aNil))))) (sRet (eC (.bl false))) sSkip)))))))
def B_law_k15 : M Fl := (sSeq (sFor (iL (e2 gAdd (eN gLst (aCons (e2 gPow (eC (.int 10)) (eC (.int 18))) aNil)) (eSlQ 0 oNone (oSome (eC (.int 6)))))) (tgN 1) B_law_k15_l1)
  (sRet (eC (.bl true))))
def F_law_k15 : List D → FR := runF 6 B_law_k15
end Ov
namespace Ov
open PySem (Str PyData)
open MV
theorem perm_parts (key : Nat → Nat) : ∀ (K l : List Nat), K.Nodup → (∀ m ∈ l, key m ∈ K) → (K.flatMap fun k => l.filter fun m => decide (key m = k)).Perm l
  | [], l, _, h => by
    cases l with
    | nil => exact List.Perm.nil
    | cons a r => have := h a List.mem_cons_self; cases this
  | k :: K, l, nd, h => by
    obtain ⟨n1, n2⟩ := List.nodup_cons.mp nd
    have ih := perm_parts key K (l.filter fun m => !decide (key m = k)) n2 fun m hm => by
      obtain ⟨a, b⟩ := List.mem_filter.mp hm
      rcases List.mem_cons.mp (h m a) with e | e
      · rw [e] at b; simp at b
      · exact e
    have eq : (K.flatMap fun k' => (l.filter fun m => !decide (key m = k)).filter fun m => decide (key m = k')) = K.flatMap fun k' => l.filter fun m => decide (key m = k') := by
      rw [List.flatMap_def, List.flatMap_def]
      congr 1
      refine List.map_congr_left fun k' hk' => ?_
      rw [List.filter_filter]
      refine List.filter_congr fun m _ => ?_
      by_cases c : key m = k'
      · have : ¬ key m = k := fun z => n1 (by rw [← z, c]; exact hk')
        rw [decide_eq_true c, decide_eq_false this]; rfl
      · rw [decide_eq_false c]; rfl
    rw [eq] at ih
    rw [List.flatMap_cons]
    exact (ih.append_left _).trans (List.filter_append_perm _ _)
theorem asInts_N (l : List Nat) : asInts (l.map fun k : Nat => D.int (k : Int)) = some (l.map fun k : Nat => (k : Int)) := by
  have := asInts_map (l.map fun k : Nat => (k : Int))
  rw [List.map_map] at this
  exact this
theorem asLL_N (n : Nat) (f : Nat → List Nat) : asLL ((List.range (n + 1)).map fun g => dN (f g)) = some ((List.range (n + 1)).map fun g => (f g).map fun k : Nat => D.int (k : Int)) := asLL_map (fun g => (f g).map fun k : Nat => D.int (k : Int)) _
theorem tree_sum {t : List Str} {G : List Nat} (hn : 0 < t.length) (hl : t.length ≤ 900) (G2 : PL (isGC t) G t.length) : gSumL [.lst (trows t.length G t.length), .lst []] = some (dN ((List.range (t.length + 1)).flatMap (trow G t.length))) ∧ gSorted [dN ((List.range (t.length + 1)).flatMap (trow G t.length))] = some (dN (List.range' 1 t.length)) := by
  have pm : ((List.range (t.length + 1)).flatMap (trow G t.length)).Perm (List.range' 1 t.length) := by
    have h1 := perm_parts (fun m => G.getD m 0) (List.range (t.length + 1)) (List.range t.length) List.nodup_range fun m hm => by
      obtain ⟨g, hg, hG⟩ := G2.2 m (List.mem_range.mp hm)
      have : G.getD m 0 = g := by rw [List.getD_eq_getElem?_getD, hg]; rfl
      rw [this, List.mem_range]
      rcases hG.1 with z | ⟨z, _⟩
      · omega
      · have := List.mem_range.mp hm; omega
    have h2 := h1.map (· + 1)
    have e1 : ((List.range (t.length + 1)).flatMap fun k => (List.range t.length).filter fun m => decide (G.getD m 0 = k)).map (· + 1) = (List.range (t.length + 1)).flatMap (trow G t.length) := by
      rw [List.map_flatMap, List.flatMap_def, List.flatMap_def]
      congr 1
      refine List.map_congr_left fun k _ => ?_
      unfold trow
      congr 1
      refine List.filter_congr fun m hm => ?_
      obtain ⟨g, hg, _⟩ := G2.2 m (List.mem_range.mp hm)
      have : G.getD m 0 = g := by rw [List.getD_eq_getElem?_getD, hg]; rfl
      rw [this, hg]
      by_cases c : g = k
      · rw [c]; simp
      · rw [decide_eq_false c, decide_eq_false (fun z => c (Option.some.inj z))]
    have e2 : (List.range t.length).map (· + 1) = List.range' 1 t.length := by
      rw [List.range'_eq_map_range]
      exact List.map_congr_left fun k _ => Nat.add_comm _ _
    rw [e1, e2] at h2
    exact h2
  have lf : ((List.range (t.length + 1)).flatMap (trow G t.length)).length = t.length := by rw [pm.length_eq, List.length_range']
  constructor
  · have al := asLL_N t.length (trow G t.length)
    have fl : ((List.range (t.length + 1)).map fun g => (trow G t.length g).map fun k : Nat => D.int (k : Int)).flatten = ((List.range (t.length + 1)).flatMap (trow G t.length)).map fun k : Nat => D.int (k : Int) := by
      rw [List.map_flatMap, List.flatMap_def]
    unfold trows
    show (match asLL ((List.range (t.length + 1)).map fun g => dN (trow G t.length g)), ([] : List D) with
      | some (e :: r), [] => if (e :: r).flatten.length ≤ LIM then some (D.lst (e :: r).flatten) else none
      | _, _ => none) = _
    rw [al]
    cases q : (List.range (t.length + 1)).map fun g => (trow G t.length g).map fun k : Nat => D.int (k : Int) with
    | nil =>
      have := congrArg List.length q
      rw [List.length_map, List.length_range] at this
      cases this
    | cons e r =>
      rw [q] at fl
      show (if (e :: r).flatten.length ≤ LIM then some (D.lst (e :: r).flatten) else none) = _
      rw [fl, if_pos (by rw [List.length_map, lf]; show _ ≤ 100000; omega)]
  · show (asInts _).map (fun ns => D.lst ((srtI ns).map .int)) = _
    rw [asInts_N]
    have e : (List.range' 1 t.length).map (fun k : Nat => (k : Int)) = srtI (((List.range (t.length + 1)).flatMap (trow G t.length)).map fun k : Nat => (k : Int)) :=
      srtI_unique (pm.symm.map _) (by
        rw [List.pairwise_map]
        exact (srt_range' 1 t.length).imp fun h => by omega)
    show some (D.lst ((srtI _).map .int)) = _
    rw [← e, List.map_map]
    rfl
section
variable {t : List Str}
theorem covs_cvl (t : List Str) : covs t = cvl t t.length t.length := srt_ext (covs_srt t) (cvl_srt t _ _) fun k => by
  rw [covs_iff, mem_cvl (Nat.le_refl _)]
theorem cvl_zero : cvl t t.length 0 = [] := by
  cases q : cvl t t.length 0 with
  | nil => rfl
  | cons k r =>
    have : k ∈ cvl t t.length 0 := by rw [q]; exact List.mem_cons_self
    obtain ⟨h1, h2, h3⟩ := (mem_cvl (Nat.le_refl _)).mp this
    have := h3.2.1
    omega
theorem cvl_up {e g : Nat} (h1 : 1 ≤ e) (h2 : e ≤ t.length) (hg : isGC t e g) : cvl t t.length e = cvl t t.length g ++ [e] := by
  rw [cvl_own h1 h2]
  obtain ⟨a, b⟩ := cvl_gc h1 h2 hg
  by_cases c : g = 0
  · rw [a c, c, cvl_zero]
  · rw [b c]
theorem covs_last (hn : 0 < t.length) : ∃ r, covs t = r ++ [t.length] := ⟨_, by rw [covs_cvl]; exact cvl_own hn (Nat.le_refl _)⟩
theorem covs_le15 : (covs t).length ≤ t.length := by
  unfold covs
  exact Nat.le_trans (List.length_filter_le _ _) (by rw [List.length_range']; exact Nat.le_refl _)
theorem at_last (l : List Nat) (x : Nat) : L2.atI ((l ++ [x]).map fun k : Nat => D.int (k : Int)) (-1) = some (.int (x : Int)) := by
  rw [atI_neg1, List.map_append, List.map_cons, List.map_nil, List.getLast?_concat]
theorem dN_rev (l : List Nat) : gRev (dN l) = some (dN l.reverse) := by
  show some (D.lst (l.map fun k : Nat => D.int (k : Int)).reverse) = _
  rw [← List.map_reverse]
theorem gl_dN (l : List Nat) : gLen [dN l] = some (.int (l.length : Int)) := by show some (D.int ((l.map fun k : Nat => D.int (k : Int)).length : Int)) = _; rw [List.length_map]
theorem tree_step (ht : Tx t) (hl : t.length ≤ 200) {G f : List Nat} {here : Nat} (G2 : PL (isGC t) G t.length) (h1 : 0 < here) (h2 : here ≤ t.length) (hf : f.length ≤ 200) {x0 x1 x2 : Option D} : ∃ g, isGC t here g ∧ g < here ∧
    B__law_tree_right_l2 [x0, x1, x2, some (.lst (trows t.length G t.length)), some (dN G), some (dN f), some (.int (here : Int))] = .ok .nx [x0, x1, x2, some (.lst (trows t.length G t.length)), some (dN G), some (dN (f ++ [here])), some (.int (g : Int))] := by
  obtain ⟨g, hg, hG⟩ := G2.2 (here - 1) (by omega)
  rw [show here - 1 + 1 = here by omega] at hG
  have lt : g < here := by rcases hG.1 with z | ⟨z, _⟩ <;> omega
  refine ⟨g, hG, lt, ?_⟩
  have e1 : (here : Int) - 1 = ((here - 1 : Nat) : Int) := by omega
  have i1 : L2.atI (G.map fun k : Nat => D.int (k : Int)) ((here - 1 : Nat) : Int) = some (.int (g : Int)) := by
    rw [atI_map, atI_eq, hg]; rfl
  have i2 : L2.atI (trows t.length G t.length) (g : Int) = some (dN (trow G t.length g)) := by
    unfold trows
    rw [atI_map, atI_eq, List.getElem?_range (by omega)]; rfl
  have hm : here ∈ trow G t.length g := by
    unfold trow
    refine List.mem_map.mpr ⟨here - 1, List.mem_filter.mpr ⟨List.mem_range.mpr (by omega), decide_eq_true hg⟩, by omega⟩
  have ni : gNotIn (.int (here : Int)) (dN (trow G t.length g)) = some (.bl false) := by
    rw [gNotIn_n]
    congr 2
    rw [Bool.not_eq_false']
    exact List.any_eq_true.mpr ⟨here, hm, decide_eq_true rfl⟩
  have gi1 : gIx (dN G) (.int ((here - 1 : Nat) : Int)) = some (.int (g : Int)) := i1
  have gi2 : gIx (.lst (trows t.length G t.length)) (.int (g : Int)) = some (dN (trow G t.length g)) := i2
  have L1 : (f.map fun k : Nat => D.int (k : Int)).length < LIM := by rw [List.length_map]; show _ < 100000; omega
  have ef : dN (f ++ [here]) = .lst ((f.map fun k : Nat => D.int (k : Int)) ++ [.int (here : Int)]) := (dN_snoc f here).symm
  rw [ef]
  show B__law_tree_right_l2 [x0, x1, x2, some (.lst (trows t.length G t.length)), some (dN G), some (.lst (f.map fun k : Nat => D.int (k : Int))), some (.int (here : Int))] = _
  generalize D.lst (trows t.length G t.length) = TR at *
  generalize dN G = GG at *
  generalize dN (trow G t.length g) = RR at *
  generalize (f.map fun k : Nat => D.int (k : Int)) = FF at *
  simp [B__law_tree_right_l2, e1, gi1, gi2, ni, L1, -gIx_l]
end
end Ov
namespace Ov
open PySem (Str PyData)
open MV
section
variable {t : List Str}
def muE (e : PEnv) : Nat := match e[6]? with
  | some (some (D.int i)) => i.toNat
  | _ => 0
theorem tree15_loop (ht : Tx t) (hn : 0 < t.length) (hl : t.length ≤ 200) {G : List Nat} (G2 : PL (isGC t) G t.length) {x0 x1 x2 : Option D} :
    sWhile T__law_tree_right_l1 B__law_tree_right_l2 WFUEL [x0, x1, x2, some (.lst (trows t.length G t.length)), some (dN G), some (dN []), some (.int (t.length : Int))] = .ok .nx [x0, x1, x2, some (.lst (trows t.length G t.length)), some (dN G), some (dN (covs t).reverse), some (.int 0)] := by
  obtain ⟨e', h1, h2⟩ := while_inv (t := T__law_tree_right_l1) (b := B__law_tree_right_l2)
    (fun e => ∃ (here : Nat) (f : List Nat), e = [x0, x1, x2, some (.lst (trows t.length G t.length)), some (dN G), some (dN f), some (.int (here : Int))] ∧ here ≤ t.length ∧ f ++ (cvl t t.length here).reverse = (covs t).reverse)
    muE (fun e => e = [x0, x1, x2, some (.lst (trows t.length G t.length)), some (dN G), some (dN (covs t).reverse), some (.int 0)])
    (fun e he => by
      obtain ⟨here, f, rfl, a, b⟩ := he
      by_cases c : 0 < here
      · have fl : f.length ≤ 200 := by
          have := congrArg List.length b
          rw [List.length_append, List.length_reverse, List.length_reverse] at this
          have := covs_le15 (t := t)
          omega
        obtain ⟨g, g1, g2, g3⟩ := tree_step ht hl G2 c a fl (x0 := x0) (x1 := x1) (x2 := x2)
        refine ⟨true, [x0, x1, x2, some (.lst (trows t.length G t.length)), some (dN G), some (dN f), some (.int (here : Int))], ?_, ?_⟩
        · have : (0 : Int) < (here : Int) := by omega
          generalize D.lst (trows t.length G t.length) = TR
          generalize dN G = GG
          generalize dN f = FF
          simp [T__law_tree_right_l1, c]
        · rw [if_pos rfl]
          refine ⟨.nx, _, g3, .inl rfl, ⟨g, f ++ [here], rfl, by omega, ?_⟩, ?_⟩
          · rw [cvl_up c a g1, List.reverse_append] at b
            rw [List.append_assoc]; exact b
          · show ((g : Int)).toNat < ((here : Int)).toNat
            rw [Int.toNat_natCast, Int.toNat_natCast]; exact g2
      · have h0 : here = 0 := by omega
        subst h0
        refine ⟨false, [x0, x1, x2, some (.lst (trows t.length G t.length)), some (dN G), some (dN f), some (.int ((0 : Nat) : Int))], ?_, ?_⟩
        · generalize D.lst (trows t.length G t.length) = TR
          generalize dN G = GG
          generalize dN f = FF
          simp [T__law_tree_right_l1]
        · rw [if_neg (by decide)]
          rw [cvl_zero, List.reverse_nil, List.append_nil] at b
          rw [b]; rfl)
    WFUEL [x0, x1, x2, some (.lst (trows t.length G t.length)), some (dN G), some (dN []), some (.int (t.length : Int))] ⟨t.length, [], rfl, Nat.le_refl _, by rw [covs_cvl]; rfl⟩ (by
      show ((t.length : Int)).toNat < 1000000
      rw [Int.toNat_natCast]; omega)
  rw [h1, h2]
theorem tree15_ok (ht : Tx t) (hn : 0 < t.length) (hl : t.length ≤ 200) : ∃ io, F__law_tree_right [dT t, dN (covs t)] = .ok (.bl true) io := by
  have z1 : (1 : Nat) ≤ PySem.sizeLine := by decide
  obtain ⟨G, G1, G2, G3⟩ := tree_val ht (by omega : t.length ≤ 900)
  obtain ⟨Lh, H1, H2, H3⟩ := hm_val ht (by omega) G1 G2
  obtain ⟨Sc, S1, S2⟩ := sc_val ht (by omega : t.length ≤ 900)
  obtain ⟨r, hr⟩ := covs_last hn
  have gl : gLen [dT t] = some (.int (t.length : Int)) := by show some (D.int ((t.map D.str).length : Int)) = _; rw [List.length_map]
  -- how many
  have mq := many_eq G2 H2 H3
  have hh : gIx (dN Lh) (.int (-1)) = some (.int ((covs t).length : Int)) := by
    rw [mq]
    have e : (List.range t.length).map (fun m => (cvl t t.length (m + 1)).length) = (List.range (t.length - 1)).map (fun m => (cvl t t.length (m + 1)).length) ++ [(covs t).length] := by
      conv => lhs; rw [show t.length = t.length - 1 + 1 by omega, List.range_succ]
      rw [List.map_append, List.map_cons, List.map_nil, covs_cvl, show t.length - 1 + 1 = t.length by omega]
    rw [e]
    exact at_last _ _
  -- the shortest
  obtain ⟨a, C, hc⟩ : ∃ a C, covs t = a :: C := by
    cases q : covs t with
    | nil => rw [q] at hr; have := congrArg List.length hr; rw [List.length_append] at this; cases this
    | cons a C => exact ⟨a, C, rfl⟩
  have hs : gIx (dN Sc) (.int (-1)) = some (.int (a : Int)) := by
    obtain ⟨g, g1, g2⟩ := S2.2 (t.length - 1) (by omega)
    rw [show t.length - 1 + 1 = t.length by omega] at g2
    have ea : a = g := by
      have ma : a ∈ covs t := by rw [hc]; exact List.mem_cons_self
      obtain ⟨a1, a2, a3⟩ := covs_iff.mp ma
      have le1 := g2.2 a a3
      have mg : g ∈ covs t := covs_iff.mpr ⟨g2.1.1, g2.1.2.1, g2.1⟩
      have sr := covs_srt t
      rw [hc] at mg sr
      rcases List.mem_cons.mp mg with e | e
      · exact e.symm
      · have := (List.pairwise_cons.mp sr).1 g e; omega
    have sl : Sc.length = t.length := S2.1
    have e : Sc = Sc.take (t.length - 1) ++ [g] := by
      have h1 : Sc.getLast? = some g := by rw [List.getLast?_eq_getElem?, sl]; exact g1
      obtain ⟨p, hp⟩ := List.getLast?_eq_some_iff.mp h1
      rw [hp] at sl ⊢
      rw [List.length_append] at sl
      have : p.length = t.length - 1 := by
        rw [List.length_cons, List.length_nil] at sl; omega
      rw [← this, List.take_left' rfl]
    rw [e, ea]
    exact at_last _ _
  have hx0 : gIx (dN (covs t)) (.int 0) = some (.int (a : Int)) := by rw [hc]; exact atI_eq ((a :: C).map fun k : Nat => D.int (k : Int)) 0
  obtain ⟨ts1, ts2⟩ := tree_sum hn (by omega : t.length ≤ 900) G2
  have lp := tree15_loop ht hn hl G2 (x0 := some (dT t)) (x1 := some (dN (covs t))) (x2 := some (.int (t.length : Int)))
  have rv : gRev (dN (covs t).reverse) = some (dN (covs t)) := by rw [dN_rev, List.reverse_reverse]
  have ne1 : gNe (dN (covs t)) (dN (covs t)) = some (.bl false) := by rw [gNe_dN, decide_eq_true rfl]; rfl
  have ne2 : ∀ i : Int, gNe (.int i) (.int i) = some (.bl false) := fun i => gNe_self (lay_int i)
  have eq2 : ∀ i : Int, gEq (.int i) (.int i) = some (.bl true) := fun i => gEq_self (lay_int i)
  have hs1 : smallI 1 = true := by decide
  have hs2 : smallI ((t.length : Int) + 1) = true := small_of (by omega) (by omega)
  have en : ((t.length : Int) + 1 - 1).toNat = t.length := by omega
  have rg : gLR2 (.int 1) (.int ((t.length : Int) + 1)) = some (dN (List.range' 1 t.length)) := by
    have L : t.length ≤ LIM := by show _ ≤ 100000; omega
    rw [gLR2_i, hs1, hs2, en, decide_eq_true L]
    have := rngN 1 t.length
    show (if (true && true && true) = true then some (D.lst (rngD 1 t.length)) else none) = _
    exact (if_pos rfl).trans (congrArg (fun z => some (D.lst z)) this)
  have eqr : gEq (dN (List.range' 1 t.length)) (dN (List.range' 1 t.length)) = some (.bl true) := by rw [gEq_dN, decide_eq_true rfl]
  have fr : (dN (List.range' 1 t.length)).flat = true := by
    show ((List.range' 1 t.length).map fun k : Nat => D.int (k : Int)).all D.sc = true
    rw [List.all_map]; exact List.all_eq_true.mpr fun _ _ => rfl
  have gc : gLen [dN (covs t)] = some (.int ((covs t).length : Int)) := gl_dN _
  have e0 : dN [] = .lst [] := rfl
  rw [e0] at lp
  refine ⟨dT t, ?_⟩
  simp only [F__law_tree_right, r_runF, B__law_tree_right]
  have ts1 : gSumL [.lst (trows t.length G t.length), .lst []] = _ := ts1
  generalize dN ((List.range (t.length + 1)).flatMap (trow G t.length)) = FL at *
  generalize dN (List.range' 1 t.length) = RR at *
  generalize D.lst (trows t.length G t.length) = TR at *
  generalize dN (covs t).reverse = CV at *
  generalize hCC : dN (covs t) = CC at *
  generalize dN G = GG at *
  generalize dN Lh = LH at *
  generalize dN Sc = SC at *
  generalize dT t = TT at *
  simp [gl, G1, G3, lp, rv, ne1, ne2, eq2, H1, hh, gc, S1, hs, hx0, ts1, ts2, rg, eqr, fr, hsz0, -gSorted_l, -gLR2_i]
end
end Ov
namespace Ov
open PySem (Str PyData)
open MV
section
variable {t w : List Str}
theorem lay15_val (ht : Tx t) (hw : Tx w) (t0 : t ≠ []) (w0 : w ≠ []) (hl : t.length ≤ 800) (hl2 : w.length ≤ 800) {S : List Nat} (hS : S.length ≤ 2000) {k : Bool} (hk : k = true ↔ Srt S ∧ (∀ x ∈ S, x ∈ lies t w) ∧ reach w.length 0 S = t.length) : F_is_laying [dT t, dT w, dN S] = .ok (.bl k) (dT t) := by
  have h := is_laying_val (P := S.map fun k : Nat => (k : Int)) ht hw t0 w0 hl hl2 (by rw [List.length_map]; exact hS)
  rw [← dN_I] at h
  have e : lay t w (S.map fun k : Nat => (k : Int)) = k := by
    rw [Bool.eq_iff_iff]
    exact lay_iff.trans hk.symm
  rw [e] at h
  exact h
theorem layings15_ok (ht : Tx t) (hw : Tx w) (t0 : t ≠ []) (w0 : w ≠ []) (hl : t.length ≤ 300) (hl2 : w.length ≤ t.length) (hr : reach w.length 0 (lies t w) = t.length) : ∃ io, F__law_layings_right [dT t, dT w] = .ok (.bl true) io := by
  have tp : 0 < t.length := List.length_pos_iff.mpr t0
  have wp : 0 < w.length := List.length_pos_iff.mpr w0
  have z2 : (2 : Nat) ≤ PySem.sizeLine := by decide
  have cv := covered_val ht hw t0 w0 (by omega) (by omega)
  rw [if_neg (by rw [hr]; exact Nat.lt_irrefl _)] at cv
  have hE : ∀ p ∈ lies t w, p ≤ t.length - w.length := fun p hp => by have := lies_lt hp; omega
  have en : t.length = (t.length - w.length) + w.length := by omega
  have hr' : reach w.length 0 (lies t w) = (t.length - w.length) + w.length := by rw [hr]; exact en
  obtain ⟨Dn, h00⟩ := dns_of wp (srt_lies t w) hE hr'
  have fw := fewest_layings_val ht hw t0 w0 (by omega) en Dn h00
  obtain ⟨f1, f2, f3⟩ := few_reach wp (srt_lies t w) hE Dn h00
  obtain ⟨g, hg, mv⟩ := hml_val ht hw t0 w0 (by omega) (by omega)
  obtain ⟨b, hb, _⟩ := due6_val (t := t) (w := w) (by omega) (by omega)
  obtain ⟨m1, m2⟩ := count_few wp (srt_lies t w) hE hr' hg hb
  have least := fun S h1 h2 h3 => few_least' wp (srt_lies t w) hE Dn h00 (S := S) h1 h2 h3
  generalize (if t.length - w.length ∈ lies t w then g (t.length - w.length) else 0) = N at *
  have ll : (lies t w).length ≤ t.length + 1 := by
    unfold lies
    refine Nat.le_trans (List.length_filter_le _ _) ?_
    rw [List.length_range]; omega
  generalize hF : 0 :: fl (lies t w) w.length (t.length - w.length) 0 = F at *
  have lF : F.length ≤ t.length + 1 := Nat.le_trans (sub_of_srt f1 (srt_lies t w) f2).length_le ll
  have v1 := lay15_val ht hw t0 w0 (by omega) (by omega) (S := lies t w) (by omega) (k := true) ⟨fun _ => ⟨srt_lies t w, fun x hx => hx, hr⟩, fun _ => rfl⟩
  have v2 := lay15_val ht hw t0 w0 (by omega) (by omega) (S := F) (by omega) (k := true) ⟨fun _ => ⟨f1, f2, by rw [f3]; exact en.symm⟩, fun _ => rfl⟩
  have v3 : ∀ k, k < F.length → F_is_laying [dT t, dT w, dN (F.take k ++ F.drop (k + 1))] = .ok (.bl false) (dT t) := fun k hk => by
    have sub : (F.take k ++ F.drop (k + 1)).Sublist F := by
      conv => rhs; rw [← List.take_append_drop k F]
      exact List.Sublist.append (List.Sublist.refl _) (List.drop_sublist_drop_left F (Nat.le_succ k))
    have l1 : (F.take k ++ F.drop (k + 1)).length < F.length := by
      rw [List.length_append, List.length_take, List.length_drop]; omega
    refine lay15_val ht hw t0 w0 (by omega) (by omega) (by omega) ⟨(fun z => by cases z), fun ⟨a1, a2, a3⟩ => ?_⟩
    have := least _ a1 a2 (by rw [a3]; exact en)
    omega
  have gF : gLen [dN F] = some (.int (F.length : Int)) := gl_dN _
  have hs : smallI (F.length : Int) = true := small_of (by omega) (by omega)
  obtain ⟨e', g1, y4, rfl⟩ := for_inv (tg := tgN 4) (b := B__law_layings_right_l1) (ds := rngD 0 F.length) (e := [some (dT t), some (dT w), some (dN (lies t w)), some (dN F), none, none])
    (fun _ e => ∃ y4, e = [some (dT t), some (dT w), some (dN (lies t w)), some (dN F), y4, none])
    ⟨none, rfl⟩
    (fun i d e hd hi => by
      obtain ⟨y4, rfl⟩ := hi
      rw [rng0, List.getElem?_map] at hd
      obtain ⟨k, hk, rfl⟩ := Option.map_eq_some_iff.mp hd
      have k1 : k < F.length := by have := List.mem_of_getElem? hk; exact List.mem_range.mp this
      refine ⟨_, [some (dT t), some (dT w), some (dN (lies t w)), some (dN F), some (.int (k : Int)), none], .nx, rfl, ?_, .inl rfl, _, rfl⟩
      have v := v3 k k1
      have c1 : cutA (F.map fun k : Nat => D.int (k : Int)) none (some (k : Int)) = (F.take k).map fun k : Nat => D.int (k : Int) := by rw [cutA_map]; exact congrArg _ (cutA_to F k)
      have c2 : cutA (F.map fun k : Nat => D.int (k : Int)) (some ((k : Int) + 1)) none = (F.drop (k + 1)).map fun k : Nat => D.int (k : Int) := by
        rw [cutA_map, show (k : Int) + 1 = ((k + 1 : Nat) : Int) by omega]; exact congrArg _ (cutA_from F (k + 1))
      have s1 : gSl (dN F) none (some (k : Int)) = some (dN (F.take k)) := by show some (D.lst _) = _; rw [c1]
      have s2 : gSl (dN F) (some ((k : Int) + 1)) none = some (dN (F.drop (k + 1))) := by show some (D.lst _) = _; rw [c2]
      have ad : gAdd (dN (F.take k)) (dN (F.drop (k + 1))) = some (dN (F.take k ++ F.drop (k + 1))) := by
        show (if ((F.take k).map fun k : Nat => D.int (k : Int)).length + ((F.drop (k + 1)).map fun k : Nat => D.int (k : Int)).length ≤ LIM then some (D.lst _) else none) = _
        rw [if_pos (by rw [List.length_map, List.length_map, List.length_take, List.length_drop]; show _ ≤ 100000; omega), ← List.map_append]
      generalize dN (F.take k ++ F.drop (k + 1)) = A3 at *
      generalize dN (F.take k) = A1 at *
      generalize dN (F.drop (k + 1)) = A2 at *
      generalize dN F = FF at *
      generalize dN (lies t w) = LL at *
      generalize dT t = T at *
      generalize dT w = W at *
      simp [B__law_layings_right_l1, s1, s2, ad, v, gNotB])
  refine ⟨dT t, ?_⟩
  have q1 : gEq (.int (N : Int)) (.int 1) = some (.bl (decide (N = 1))) := by
    have e : decide ((N : Int) = 1) = decide (N = 1) := decide_eq_decide.mpr ⟨fun z => by omega, fun z => by omega⟩
    rw [gEq_i, e]
  have q2 := gEq_dN F (lies t w)
  have q3 : gEq (.bl (decide (N = 1))) (.bl (decide (F = lies t w))) = some (.bl true) := by
    have : decide (N = 1) = decide (F = lies t w) := decide_eq_decide.mpr m2
    rw [this]
    cases decide (F = lies t w) <;> rfl
  have m1' : (1 : Int) ≤ (N : Int) := by omega
  simp only [F__law_layings_right, r_runF, B__law_layings_right]
  generalize hN1 : decide (N = 1) = b1 at *
  generalize decide (F = lies t w) = b2 at *
  generalize dN F = FF at *
  generalize dN (lies t w) = LL at *
  generalize dT t = T at *
  generalize dT w = W at *
  simp [cv, fw, v1, v2, gF, hs, g1, mv, q1, q2, q3, gNotB, m1', -gEq_i]
end
end Ov
namespace Ov
open PySem (Str PyData)
open MV
def cvB (k : Nat) (L : List Nat) (j : Nat) : Bool := L.any fun p => decide (p ≤ j ∧ j < p + k)
def ncv (n k : Nat) (L : List Nat) : Nat := (List.range n).countP (cvB k L)
def gs (k : Nat) : List Nat → Nat
  | [] => 0
  | [_] => k
  | p :: q :: r => min k (q - p) + gs k (q :: r)
section
variable {t w : List Str}
def nC (t w : List Str) : Nat := ncv t.length w.length (lies t w)
end
end Ov
namespace Ov
open PySem (Str PyData)
open MV
section
variable {t : List Str}
end
end Ov
namespace Ov
open PySem (Str PyData)
open MV
def bsF (f : Nat → Nat) : Nat → Nat × Nat
  | 0 => (0, 0)
  | i + 1 => if (bsF f i).1 < f i then (f i, i) else bsF f i
section
variable {t : List Str} {k : Nat}
def fC (t : List Str) (k j : Nat) : Nat := nC t (pc t k j)
def fstL (t : List Str) (k i : Nat) : List Nat := (List.range i).filter (fstAt t k)
def occ (t : List Str) (k i j : Nat) : List Nat := (List.range i).filter fun p => decide (pc t k p = pc t k j)
end
end Ov
namespace Ov
open PySem (Str PyData)
open MV
section
variable {t : List Str} {k : Nat}
end
end Ov
namespace Ov
open PySem (Str PyData)
open MV
def rn (k : Nat) : Nat → List Nat → List (Nat × Nat)
  | _, [] => []
  | e, p :: L => (if e < p then [(e, p)] else []) ++ rn k (p + k) L
section
variable {t w : List Str} {k m : Nat}
def mx (t : List Str) (s : Nat) : Nat := (bsF (fC t s) (t.length + 1 - s)).1
def lf (t : List Str) (m : Nat) : Nat → Nat
  | 0 => 0
  | 1 => 1
  | s + 2 => if m ≤ mx t (s + 1) then lf t m (s + 1) else s + 2
end
end Ov
namespace Ov
open PySem (Str PyData)
open MV
def prm (w : List Str) : List Nat := (wayson w).filter fun d => decide ((wayson w).filter (fun e => decide (e < d) && decide (((bld w [d]).drop e).take w.length = w)) = [])
section
variable {w : List Str}
end
end Ov
namespace Ov
open PySem (Str PyData)
open MV
section
variable {N : List Nat}
def cl (N : List Nat) : Nat → List Nat
  | 0 => [1]
  | m + 1 => cl N m ++ [((N.filter fun d => decide (d ≤ m + 1)).map fun d => (cl N m).getD (m + 1 - d) 0).sum]
def cnt (N : List Nat) (m : Nat) : Nat := (cl N m).getD m 0
def cv (N : List Nat) (m d : Nat) : Nat := if d ≤ m then cnt N (m - d) else 0
def pk (N : List Nat) (m : Nat) : List Nat → Nat → Option (Nat × Nat)
  | [], _ => none
  | d :: l, k => if k < cv N m d then some (d, k) else pk N m l (k - cv N m d)
def un (N : List Nat) : Nat → Nat → Nat → List Nat
  | 0, _, _ => []
  | _ + 1, 0, _ => []
  | f + 1, m + 1, k => match pk N (m + 1) N k with
    | some (d, r) => d :: un N f (m + 1 - d) r
    | none => []
section
variable (hN : ∀ d ∈ N, 1 ≤ d)
include hN
end
end
end Ov
namespace Ov
open PySem (Str PyData)
open MV
def nD (w : List Str) (d : Nat) : D := .tup [dT (w.drop (w.length - d)), .int (d : Int)]
def nx (w : List Str) : List Nat := (prm w).mergeSort fun a b => leD (nD w a) (nD w b)
section
variable {w : List Str}
end
end Ov
namespace Ov
open PySem (Str PyData)
open MV
section
variable {w : List Str}
end
end Ov
namespace Ov
open PySem (Str PyData)
open MV
section
variable {w : List Str} {N : List Nat}
end
end Ov
namespace Ov
open PySem (Str PyData)
open MV
section
variable {w : List Str} {N : List Nat}
end
end Ov
namespace Ov
open PySem (Str PyData)
open MV
section
variable {w : List Str}
end
end Ov
namespace Ov
open PySem (Str PyData)
open MV
section
variable {t w : List Str}
end
end Ov
namespace Ov
open PySem (Str PyData)
open MV
section
variable {w : List Str}
end
end Ov
namespace Ov
open PySem (Str PyData)
open MV
end Ov
namespace Ov
open PySem (Str PyData)
open MV
end Ov
namespace Ov
open PySem (Str PyData)
open MV
end Ov
namespace Ov
open PySem (Str PyData)
open MV
end Ov
namespace Ov
open PySem (Str PyData)
open MV
section
variable {w : List Str}
end
end Ov
namespace Ov
open PySem (Str PyData)
open MV
end Ov
namespace Ov
open PySem (Str PyData)
open MV
end Ov
namespace Ov
open PySem (Str PyData)
open MV
end Ov
namespace Ov
open PySem (Str PyData)
open MV
section
variable {t : List Str} {k : Nat}
end
end Ov
namespace Ov
open PySem (Str PyData)
open MV
def lsI (k : Nat) (L : List Nat) : Int := match L.getLast? with
  | none => -(k : Int)
  | some q => (q : Int)
section
variable {t : List Str} {k : Nat}
def eDk (k : Nat) (L : List Nat) : D := .tup [.int (lsI k L), .int ((gs k L : Nat) : Int)]
def mP (t : List Str) (k i : Nat) : List (List L2.Key × D) := (fstL t k i).map fun j => (metK (pc t k j), eDk k (occ t k i j))
end
end Ov
namespace Ov
open PySem (Str PyData)
open MV
theorem map_inj_on {ρ : Str → Str} (h : ∀ x y, Sg x → Sg y → ρ x = ρ y → x = y) : ∀ {a b : List Str}, Tx a → Tx b → (a.map ρ = b.map ρ ↔ a = b)
  | [], [], _, _ => by simp
  | [], _ :: _, _, _ => by simp
  | _ :: _, [], _, _ => by simp
  | x :: a, y :: b, ha, hb => by
    have ih := map_inj_on h (a := a) (b := b) (fun z hz => ha z (List.mem_cons_of_mem _ hz)) (fun z hz => hb z (List.mem_cons_of_mem _ hz))
    rw [List.map_cons, List.map_cons, List.cons.injEq, List.cons.injEq, ih]
    exact ⟨fun ⟨p, q⟩ => ⟨h x y (ha x List.mem_cons_self) (hb y List.mem_cons_self) p, q⟩, fun ⟨p, q⟩ => ⟨by rw [p], q⟩⟩
section
variable {t w : List Str} {k : Nat}
theorem lies_map {ρ : Str → Str} (h : ∀ x y, Sg x → Sg y → ρ x = ρ y → x = y) (ht : Tx t) (hw : Tx w) : lies (t.map ρ) (w.map ρ) = lies t w := by
  unfold lies
  rw [List.length_map, List.length_map]
  refine List.filter_congr fun p _ => ?_
  rw [← List.map_drop, ← List.map_take, Bool.eq_iff_iff, decide_eq_true_iff, decide_eq_true_iff]
  exact map_inj_on h ((ht.drop p).take w.length) hw
end
end Ov
namespace Ov
open PySem (Str PyData)
open MV
section
variable {t : List Str}
end
end Ov
namespace Ov
open PySem (Str PyData)
open MV
section
variable {t : List Str}
end
end Ov
namespace Ov
open PySem (Str PyData)
open MV
theorem erase_mapG {α β : Type} (f : α → β) : ∀ (l : List α) (i : Nat), (l.map f).eraseIdx i = (l.eraseIdx i).map f
  | [], _ => rfl
  | _ :: _, 0 => rfl
  | x :: l, i + 1 => congrArg (f x :: ·) (erase_mapG f l i)
theorem perm_erase {α : Type} : ∀ (l : List α) (i : Nat) (h : i < l.length), (l[i] :: l.eraseIdx i).Perm l
  | _ :: _, 0, _ => List.Perm.refl _
  | x :: l, i + 1, h => by
    have ih := perm_erase l i (by simpa using h)
    show (l[i]'(by simpa using h) :: x :: l.eraseIdx i).Perm (x :: l)
    exact (List.Perm.swap x _ _).trans (List.Perm.cons x ih)
def abcL : List Str := (List.range 26).map fun i => (⟨#[97 + i]⟩ : Str)
theorem abc_cps : (Str.ofString "abcdefghijklmnopqrstuvwxyz").cps.toList = (List.range 26).map fun i => 97 + i := by decide +kernel
theorem abc_ch : chD (Str.ofString "abcdefghijklmnopqrstuvwxyz") = abcL.map D.str := by
  unfold chD abcL
  rw [abc_cps, List.map_map, List.map_map]
  rfl
theorem abcL_sg : ∀ x, x ∈ abcL ↔ Sg x := fun x => by
  unfold abcL
  rw [List.mem_map]
  constructor
  · rintro ⟨i, hi, rfl⟩
    have := List.mem_range.mp hi
    exact ⟨97 + i, rfl, by omega, by omega⟩
  · rintro ⟨c, rfl, c1, c2⟩
    exact ⟨c - 97, List.mem_range.mpr (by omega), by rw [show 97 + (c - 97) = c by omega]⟩
theorem abcL_nodup : abcL.Nodup := by unfold abcL; decide +kernel
def prS (p : Str × Str) : D := .tup [.str p.1, .str p.2]
theorem pairs_prS : ∀ L : List (Str × Str), pairsD (L.map prS) = some (L.map fun p => ((Sum.inr p.1 : L2.Key), D.str p.2))
  | [] => rfl
  | p :: L => by rw [List.map_cons, pairsD, pairs_prS L]; rfl
theorem merge_new : ∀ (L K : List (Str × Str)), ((K ++ L).map (·.1)).Nodup → mergeD (K.map fun p => ((Sum.inr p.1 : L2.Key), D.str p.2)) (L.map fun p => ((Sum.inr p.1 : L2.Key), D.str p.2)) = (K ++ L).map fun p => ((Sum.inr p.1 : L2.Key), D.str p.2)
  | [], K, _ => by rw [List.append_nil]; rfl
  | p :: L, K, h => by
    have no : ((K.map fun p => ((Sum.inr p.1 : L2.Key), D.str p.2)).any fun kv => decide (kv.1 = Sum.inr p.1)) = false := by
      rw [List.any_eq_false]
      intro kv hkv
      obtain ⟨q, hq, rfl⟩ := List.mem_map.mp hkv
      rw [decide_eq_true_iff]
      intro e
      have e : q.1 = p.1 := Sum.inr.inj e
      rw [List.map_append, List.map_cons] at h
      have := (List.pairwise_append.mp h).2.2 q.1 (List.mem_map.mpr ⟨q, hq, rfl⟩) p.1 List.mem_cons_self
      exact this e
    have ih := merge_new L (K ++ [p]) (by rw [List.append_assoc]; exact h)
    rw [List.append_assoc] at ih
    show mergeD (dput (K.map fun p => ((Sum.inr p.1 : L2.Key), D.str p.2)) (Sum.inr p.1) (.str p.2)) (L.map fun p => ((Sum.inr p.1 : L2.Key), D.str p.2)) = _
    have : dput (K.map fun p => ((Sum.inr p.1 : L2.Key), D.str p.2)) (Sum.inr p.1) (.str p.2) = (K ++ [p]).map fun p => ((Sum.inr p.1 : L2.Key), D.str p.2) := by
      unfold dput
      rw [no, if_neg (by decide), List.map_append]; rfl
    rw [this]
    exact ih
def rhoP (L : List (Str × Str)) (x : Str) : Str := ((L.find? fun p => decide (p.1 = x)).map (·.2)).getD x
theorem dval_rhoP (L : List (Str × Str)) (x : Str) (h : x ∈ L.map (·.1)) : dval (L.map fun p => ((Sum.inr p.1 : L2.Key), D.str p.2)) (Sum.inr x) = some (.str (rhoP L x)) ∧ ∃ p ∈ L, p.1 = x ∧ rhoP L x = p.2 := by
  unfold dval rhoP
  rw [List.find?_map]
  have e : ((fun kv : L2.Key × D => decide (kv.1 = Sum.inr x)) ∘ fun p : Str × Str => ((Sum.inr p.1 : L2.Key), D.str p.2)) = fun p : Str × Str => decide (p.1 = x) := by
    funext p
    show decide ((Sum.inr p.1 : L2.Key) = Sum.inr x) = decide (p.1 = x)
    rw [decide_eq_decide]
    exact ⟨fun h => Sum.inr.inj h, fun h => by rw [h]⟩
  rw [e]
  cases q : L.find? fun p => decide (p.1 = x) with
  | none =>
    obtain ⟨p, hp, rfl⟩ := List.mem_map.mp h
    have := List.find?_eq_none.mp q p hp
    simp at this
  | some p =>
    have h1 := List.find?_some (p := fun p : Str × Str => decide (p.1 = x)) q
    exact ⟨rfl, p, List.mem_of_find?_eq_some q, of_decide_eq_true h1, rfl⟩
theorem rhoP_inj {L : List (Str × Str)} (h1 : (L.map (·.2)).Nodup) {x y : Str} (hx : x ∈ L.map (·.1)) (hy : y ∈ L.map (·.1)) (h : rhoP L x = rhoP L y) : x = y := by
  obtain ⟨p, p1, p2, p3⟩ := (dval_rhoP L x hx).2
  obtain ⟨q, q1, q2, q3⟩ := (dval_rhoP L y hy).2
  obtain ⟨i, hi, e1⟩ := List.getElem_of_mem p1
  obtain ⟨j, hj, e2⟩ := List.getElem_of_mem q1
  have pw := List.pairwise_iff_getElem.mp h1
  have hi' : i < (L.map (·.2)).length := by rw [List.length_map]; exact hi
  have hj' : j < (L.map (·.2)).length := by rw [List.length_map]; exact hj
  have e : p.2 = q.2 := by rw [← p3, ← q3, h]
  rcases Nat.lt_trichotomy i j with c | c | c
  · have := pw i j hi' hj' c
    rw [List.getElem_map, List.getElem_map, e1, e2] at this
    exact absurd e this
  · subst c
    rw [e1] at e2
    rw [← p2, ← q2, e2]
  · have := pw j i hj' hi' c
    rw [List.getElem_map, List.getElem_map, e1, e2] at this
    exact absurd e.symm this
theorem renamed3_val {h : List Int} (hh : Hd h) : ∃ (L : List (Str × Str)) (h' : List Int), F__law_renamed_v3 [dI h] = .ok (.dic (L.map fun p => ((Sum.inr p.1 : L2.Key), D.str p.2))) (dI h') ∧ Hd h' ∧ L.map (·.1) = abcL ∧ (L.map (·.2)).Perm abcL := by
  have al : (abcL).length = 26 := by unfold abcL; rw [List.length_map, List.length_range]
  obtain ⟨acc, e', g1, L, left, h', rfl, rfl, q1, q2, q3⟩ := lc_inv (is := [2]) (tg := tgN 2) (t := tTrue) (fe := eN gTupD (aCons (eS (eV 2)) (aCons (ePopW 1 (eCallW F__law_take 0 (aCons (eLenW 1) aNil))) aNil))) (ds := abcL.map D.str)
    (fun i acc e => ∃ (L : List (Str × Str)) (left : List Str) (h' : List Int), acc = L.map prS ∧ e = [some (dI h'), some (dT left), none] ∧ Hd h' ∧ L.map (·.1) = abcL.take i ∧ (L.map (·.2) ++ left).Perm abcL)
    [] [some (dI h), some (dT abcL), none] ⟨[], abcL, h, rfl, rfl, hh, rfl, List.Perm.refl _⟩ (by rw [List.length_map, al]; show 0 + 26 ≤ 100000; omega)
    (fun i d acc e hd hi => by
      obtain ⟨L, left, h1, rfl, rfl, q1, q2, q3⟩ := hi
      rw [List.getElem?_map] at hd
      obtain ⟨x, hx, rfl⟩ := Option.map_eq_some_iff.mp hd
      have hi := (List.getElem?_eq_some_iff.mp hx).1
      have ll : L.length = i := by
        have := congrArg List.length q2
        rw [List.length_map, List.length_take] at this
        omega
      have pl := q3.length_eq
      rw [List.length_append, List.length_map, al] at pl
      have lp : 0 < left.length := by omega
      obtain ⟨r, h2, t1, t2, t3⟩ := take_ok (m := left.length) q1 (by omega) (by omega)
      have t2 : r < left.length := by omega
      have ix : L2.ixN (left.map D.str).length (r : Int) = some r := ixN_nat (by rw [List.length_map]; exact t2)
      have ge : (left.map D.str)[r]? = some (.str left[r]) := by rw [List.getElem?_map, List.getElem?_eq_getElem t2]; rfl
      have er : (left.map D.str).eraseIdx r = (left.eraseIdx r).map D.str := erase_mapG D.str left r
      have L1 : (left.map D.str).length ≤ LIM := by rw [List.length_map]; show _ ≤ 100000; omega
      have z2 : (2 : Nat) ≤ PySem.sizeLine := by decide
      refine ⟨_, _, true, rfl, rfl, fun _ => ⟨prS (x, left[r]), [some (dI h2), some (dT (left.eraseIdx r)), some (.str x)], ?_, L ++ [(x, left[r])], left.eraseIdx r, h2, by rw [List.map_append]; rfl, rfl, t3, ?_, ?_⟩, fun h => by cases h⟩
      · unfold dT at *
        have t1 : F__law_take [dI h1, .int ((left.map D.str).length : Int)] = .ok (.int (r : Int)) (dI h2) := by rw [List.length_map]; exact t1
        rw [← er]
        generalize left.map D.str = LL at *
        simp [L1, t1, ix, ge, z2, List.all_map, prS]
      · rw [List.map_append, q2, List.take_succ, hx]; rfl
      · rw [List.map_append, List.append_assoc]
        refine (List.Perm.append_left _ ?_).trans q3
        exact perm_erase left r t2)
  rw [List.length_map, al] at q2
  have q2 : L.map (·.1) = abcL := by rw [q2]; exact List.take_of_length_le (by omega)
  have ll : L.length = 26 := by rw [← al, ← q2, List.length_map]
  have pl := q3.length_eq
  rw [List.length_append, List.length_map, al] at pl
  have l0 : left = [] := List.length_eq_zero_iff.mp (by omega)
  subst l0
  rw [List.append_nil] at q3
  have mg := merge_new L [] (by rw [List.nil_append, q2]; exact abcL_nodup)
  have dp : gDictP [.lst (L.map prS)] = some (.dic (L.map fun p => ((Sum.inr p.1 : L2.Key), D.str p.2))) := by
    show (pairsD (L.map prS)).map _ = _
    rw [pairs_prS]
    show some (D.dic (mergeD [] _)) = _
    have mg : mergeD [] (L.map fun p => ((Sum.inr p.1 : L2.Key), D.str p.2)) = _ := mg
    rw [mg]; rfl
  refine ⟨L, h', ?_, q1, q2, q3⟩
  have gl : gList1 [.str (Str.ofString "abcdefghijklmnopqrstuvwxyz")] = some (dT abcL) := by
    rw [gList1_s, if_pos (by decide +kernel), abc_ch]
  have as' : asStr (.str (Str.ofString "abcdefghijklmnopqrstuvwxyz")) = some (abcL.map D.str) := by
    have := abc_ch
    unfold chD at this
    rw [← this]; rfl
  simp only [F__law_renamed_v3, r_runF, B__law_renamed_v3]
  have fl := strs_all abcL
  unfold dT at *
  generalize (L.map fun p => ((Sum.inr p.1 : L2.Key), D.str p.2)) = DD at *
  generalize L.map prS = PP at *
  generalize hA : abcL.map D.str = AA at *
  generalize Str.ofString "abcdefghijklmnopqrstuvwxyz" = ABC at *
  simp [gl, as', g1, dp]
  intro x hx hs
  rw [fl x hx] at hs; cases hs
end Ov
namespace Ov
open PySem (Str PyData)
open MV
section
variable {t : List Str}
theorem take_idx : ∀ {L : List Nat} {c : Nat}, Srt L → c ∈ L → L.take (L.idxOf c + 1) = L.filter fun k => decide (k ≤ c)
  | [], c, _, h => by cases h
  | a :: r, c, hs, h => by
    obtain ⟨p1, p2⟩ := List.pairwise_cons.mp hs
    by_cases e : a = c
    · subst e
      rw [List.idxOf_cons_self, List.filter_cons, if_pos (decide_eq_true (Nat.le_refl _))]
      have : r.filter (fun k => decide (k ≤ a)) = [] := List.filter_eq_nil_iff.mpr fun k hk z => by
        have := p1 k hk
        have := of_decide_eq_true z
        omega
      rw [this]; rfl
    · have hr : c ∈ r := by
        rcases List.mem_cons.mp h with z | z
        · exact absurd z.symm e
        · exact z
      have lt := p1 c hr
      have ei : (a :: r).idxOf c = r.idxOf c + 1 := by
        have : (a == c) = false := beq_eq_false_iff_ne.mpr e
        rw [List.idxOf_cons, this]
        rfl
      rw [ei, List.filter_cons, if_pos (decide_eq_true (by omega)), List.take_succ_cons, take_idx p2 hr]
theorem take_get {c i : Nat} (hi : i < c) : (t.take c)[i]? = t[i]? := by rw [List.getElem?_take, if_pos hi]
theorem covs_take {c : Nat} (hc : c ∈ covs t) : covs (t.take c) = (covs t).take ((covs t).idxOf c + 1) := by
  obtain ⟨c1, c2, c3⟩ := covs_iff.mp hc
  rw [take_idx (covs_srt t) hc]
  refine srt_ext (covs_srt _) (srt_filter _ (covs_srt t)) fun k => ?_
  have lc : (t.take c).length = c := by rw [List.length_take]; omega
  rw [covs_iff, lc, List.mem_filter, covs_iff, decide_eq_true_iff]
  constructor
  · rintro ⟨h1, h2, h3⟩
    have h4 : Cvr t k c := h3.pre (fun i hi => (take_get hi).symm) (by omega) (by omega)
    exact ⟨⟨h1, by omega, h4.trans c3⟩, h2⟩
  · rintro ⟨⟨h1, h2, h3⟩, h4⟩
    exact ⟨h1, h4, (h3.down c3 h4).pre (fun i hi => take_get hi) (by omega) (by omega)⟩
theorem covs_short (hn : 0 < t.length) {a : Nat} {C : List Nat} (hc : covs t = a :: C) : covs (t.take a) = [a] := by
  have h := covs_take (t := t) (c := a) (by rw [hc]; exact List.mem_cons_self)
  rw [h, hc, List.idxOf_cons_self]; rfl
theorem covs_one (hn : 0 < t.length) {a : Nat} {C : List Nat} (hc : covs t = a :: C) : a = t.length ↔ (covs t).length = 1 := by
  obtain ⟨r, hr⟩ := covs_last (t := t) hn
  have sr := covs_srt t
  constructor
  · intro e
    cases C with
    | nil => rw [hc]; rfl
    | cons b C =>
      exfalso
      have mb : b ∈ covs t := by rw [hc]; exact List.mem_cons_of_mem _ List.mem_cons_self
      have := (covs_iff.mp mb).2.1
      rw [hc] at sr
      have := (List.pairwise_cons.mp sr).1 b List.mem_cons_self
      omega
  · intro e
    rw [hr, List.length_append] at e
    have : r = [] := List.length_eq_zero_iff.mp (by rw [List.length_cons, List.length_nil] at e; omega)
    rw [this] at hr
    rw [hr] at hc
    have := (List.cons.inj hc).1
    exact this.symm
theorem Cvr.mirror {s : Nat} (h : Cvr t s t.length) : Cvr t.reverse s t.length := by
  have hb := h.suffix
  obtain ⟨h1, h2, h3, h4⟩ := h
  refine ⟨h1, h2, by rw [List.length_reverse]; exact Nat.le_refl _, fun i hi => ?_⟩
  obtain ⟨p, q1, q2, q3, q4⟩ := h4 (t.length - 1 - i) (by omega)
  refine ⟨t.length - s - p, by omega, by omega, by omega, fun j hj => ?_⟩
  rw [List.getElem?_reverse (by omega), List.getElem?_reverse (by omega)]
  have e1 := q4 (s - 1 - j) (by omega)
  have e2 := hb (s - 1 - j) (by omega)
  rw [show t.length - 1 - (t.length - s - p + j) = p + (s - 1 - j) by omega, e1, ← e2]
  congr 1; omega
theorem covs_rev (t : List Str) : covs t.reverse = covs t := srt_ext (covs_srt _) (covs_srt _) fun k => by
  rw [covs_iff, covs_iff, List.length_reverse]
  constructor
  · rintro ⟨a, b, c⟩
    have c : Cvr t.reverse k t.reverse.length := by rw [List.length_reverse]; exact c
    have := c.mirror
    rw [List.reverse_reverse, List.length_reverse] at this
    exact ⟨a, b, this⟩
  · rintro ⟨a, b, c⟩
    exact ⟨a, b, c.mirror⟩
end
end Ov
namespace Ov
open PySem (Str PyData)
open MV
section
variable {t : List Str}
theorem notin_of {L : List Nat} {k : Nat} (h : k ∈ L) : gNotIn (.int (k : Int)) (dN L) = some (.bl false) := by
  rw [gNotIn_n]
  congr 2
  rw [Bool.not_eq_false']
  exact List.any_eq_true.mpr ⟨k, h, decide_eq_true rfl⟩
theorem covers15_row (ht : Tx t) (hn : 0 < t.length) (hl : t.length ≤ 300) {c : Nat} (hc : c ∈ covs t) (hlt : c < t.length) {x0 x3 x5 x6 x7 x8 : Option D} : B__law_covers_right_l1 [x0, some (dT t), some (dN (covs t)), x3, some (.int (c : Int)), x5, x6, x7, x8] = .ok .nx [x0, some (dT t), some (dN (covs t)), x3, some (.int (c : Int)), x5, x6, x7, x8] := by
  obtain ⟨c1, c2, c3⟩ := covs_iff.mp hc
  have t0 : t ≠ [] := List.length_pos_iff.mp hn
  have lc : (t.take c).length = c := by rw [List.length_take]; omega
  have tc0 : t.take c ≠ [] := List.length_pos_iff.mp (by omega)
  have tc := ht.take c
  have bv := borders_val ht (by omega : t.length ≤ 1000)
  have cv := covered_val ht tc t0 tc0 (by omega) (by omega)
  have rc : ¬ reach (t.take c).length 0 (lies t (t.take c)) < t.length := by
    have h1 := (cov_iff c1 c2).mpr c3
    unfold cov at h1
    have := of_decide_eq_true h1
    rw [lc, this]; exact Nat.lt_irrefl _
  rw [if_neg rc] at cv
  have av := all_covers_val tc tc0 (by omega)
  rw [covs_take hc] at av
  have bv2 := cb_val ht tc tc0 (by omega) (by omega)
  rw [lc] at bv2
  have ix := index_nat hc
  have ni1 : gNotIn (.int (c : Int)) (dN (bord t)) = some (.bl false) := notin_of ((bord_eq c).mpr (c3.isB hlt))
  have ni2 : gNotIn (.int (t.length : Int)) (dN (wlk c 0 (lies t (t.take c)))) = some (.bl false) := notin_of ((mem_ends c1 c2).mpr c3)
  have gl : gLen [dT t] = some (.int (t.length : Int)) := by show some (D.int ((t.map D.str).length : Int)) = _; rw [List.length_map]
  have c0 : gSl (dT t) none (some (c : Int)) = some (dT (t.take c)) := by
    show some (D.lst (cutA (t.map D.str) none (some (c : Int)))) = _
    rw [cutA_map]; exact congrArg (fun z => some (D.lst (z.map D.str))) (cutA_to t c)
  have c4 : gSl (dN (covs t)) none (some (((covs t).idxOf c : Nat) + 1 : Int)) = some (dN ((covs t).take ((covs t).idxOf c + 1))) := by
    show some (D.lst (cutA ((covs t).map fun k : Nat => D.int (k : Int)) none (some (((covs t).idxOf c : Nat) + 1 : Int)))) = _
    rw [cutA_map, show (((covs t).idxOf c : Nat) + 1 : Int) = (((covs t).idxOf c + 1 : Nat) : Int) by omega]
    exact congrArg (fun z => some (D.lst (z.map fun k : Nat => D.int (k : Int)))) (cutA_to (covs t) _)
  have ne1 : gNe (.str (Str.ofString "covers")) (.str (Str.ofString "covers")) = some (.bl false) := by rfl
  have ne2 : gNe (dN ((covs t).take ((covs t).idxOf c + 1))) (dN ((covs t).take ((covs t).idxOf c + 1))) = some (.bl false) := by rw [gNe_dN, decide_eq_true rfl]; rfl
  have ty : tyD (dN (covs t)) = "list" := rfl
  generalize dN ((covs t).take ((covs t).idxOf c + 1)) = CT at *
  generalize (covs t).idxOf c = j at *
  generalize dN (covs t) = CC at *
  generalize dN (bord t) = BB at *
  generalize dN (wlk c 0 (lies t (t.take c))) = WW at *
  generalize dN (lies t (t.take c)) = LL at *
  generalize dT (t.take c) = TC at *
  generalize dT t = TT at *
  simp [B__law_covers_right_l1, bv, cv, av, bv2, ni1, ni2, gl, c0, c4, ne1, ne2, ty, ix]
theorem draw15 {h : List Int} (hh : Hd h) (hn : 0 < t.length) (hl : t.length ≤ 300) (h2 : 1 < (covs t).length) {x1 x3 x4 x5 x6 x7 : Option D} :
    ∃ (S : List Nat) (h' : List Int), lcGo [8] (tgN 8) tTrue (e2 gIx (eV 2) (eCallW F__law_take 0 (aCons (e2 gSub (eN gLen (aCons (eV 2) aNil)) (eC (.int 1))) aNil))) (rngD 0 6) [] [some (dI h), x1, some (dN (covs t)), x3, x4, x5, x6, x7, none] = .ok (S.map fun k : Nat => D.int (k : Int)) [some (dI h'), x1, some (dN (covs t)), x3, x4, x5, x6, x7, none] ∧ Hd h' ∧ ∀ c ∈ S, c ∈ covs t ∧ c < t.length := by
  have gl : gLen [dN (covs t)] = some (.int ((covs t).length : Int)) := gl_dN _
  have cl := covs_le15 (t := t)
  obtain ⟨r0, hr⟩ := covs_last (t := t) hn
  obtain ⟨acc, e', g1, S, h', rfl, rfl, q1, q2⟩ := lc_inv (is := [8]) (tg := tgN 8) (t := tTrue) (fe := e2 gIx (eV 2) (eCallW F__law_take 0 (aCons (e2 gSub (eN gLen (aCons (eV 2) aNil)) (eC (.int 1))) aNil))) (ds := rngD 0 6)
    (fun _ acc e => ∃ (S : List Nat) (h' : List Int), acc = S.map (fun k : Nat => D.int (k : Int)) ∧ e = [some (dI h'), x1, some (dN (covs t)), x3, x4, x5, x6, x7, none] ∧ Hd h' ∧ ∀ c ∈ S, c ∈ covs t ∧ c < t.length)
    [] [some (dI h), x1, some (dN (covs t)), x3, x4, x5, x6, x7, none] ⟨[], h, rfl, rfl, hh, fun c hc => by cases hc⟩ (by rw [rng0, List.length_map, List.length_range]; show 0 + 6 ≤ 100000; decide)
    (fun i d acc e hd hi => by
      obtain ⟨S, h1, rfl, rfl, q1, q2⟩ := hi
      obtain ⟨r, h2', t1, t2, t3⟩ := take_ok (m := (covs t).length - 1) q1 (by omega) (by omega)
      have er : ((covs t).length : Int) - 1 = (((covs t).length - 1 : Nat) : Int) := by omega
      have t2 : r < (covs t).length - 1 := by omega
      have ge : (covs t)[r]? = some (covs t)[r] := List.getElem?_eq_getElem (by omega)
      have gi : gIx (dN (covs t)) (.int (r : Int)) = some (.int ((covs t)[r] : Nat)) := by
        show L2.atI ((covs t).map fun k : Nat => D.int (k : Int)) (r : Int) = _
        rw [atI_map, atI_eq, ge]; rfl
      refine ⟨_, _, true, rfl, rfl, fun _ => ⟨.int ((covs t)[r] : Nat), [some (dI h2'), x1, some (dN (covs t)), x3, x4, x5, x6, x7, some d], ?_, S ++ [(covs t)[r]], h2', by rw [List.map_append]; rfl, rfl, t3, fun c hc => ?_⟩, fun h => by cases h⟩
      · generalize hCC : dN (covs t) = CC at *
        simp [gl, t1, gi, List.all_map, -gIx_l]
      · rcases List.mem_append.mp hc with hc | hc
        · exact q2 c hc
        · rw [List.mem_singleton.mp hc]
          refine ⟨List.getElem_mem _, ?_⟩
          have sr := covs_srt t
          rw [hr] at sr
          have mr : (covs t)[r] ∈ r0 := by
            have lr : r0.length = (covs t).length - 1 := by rw [hr, List.length_append, List.length_cons, List.length_nil]; omega
            have h1 : (covs t)[r]? = r0[r]? := by rw [hr, List.getElem?_append_left (by omega)]
            rw [ge] at h1
            exact List.mem_of_getElem? h1.symm
          have := (List.pairwise_append.mp sr).2.2 _ mr t.length List.mem_cons_self
          exact this)
  exact ⟨S, h', g1, q1, q2⟩
theorem bare15 (ht : Tx t) (t0 : t ≠ []) (hl : t.length ≤ 300) {a : Nat} {C : List Nat} (hc : covs t = a :: C) : F_is_bare [dT t] = .ok (.bl (decide ((covs t).length = 1))) (dT t) ∧ F_is_bare [dT (t.take a)] = .ok (.bl true) (dT (t.take a)) := by
  have hn : 0 < t.length := List.length_pos_iff.mpr t0
  have ma : a ∈ covs t := by rw [hc]; exact List.mem_cons_self
  obtain ⟨a1, a2, a3⟩ := covs_iff.mp ma
  constructor
  · have h := is_bare_val ht t0 (by omega) hc
    have e : decide ((a : Int) = (t.length : Int)) = decide ((covs t).length = 1) := decide_eq_decide.mpr ⟨fun z => (covs_one hn hc).mp (by omega), fun z => by have := (covs_one hn hc).mpr z; omega⟩
    rw [e] at h
    exact h
  · have lc : (t.take a).length = a := by rw [List.length_take]; omega
    have h := is_bare_val (ht.take a) (List.length_pos_iff.mp (by omega)) (by omega) (covs_short hn hc)
    rw [lc, decide_eq_true rfl] at h
    exact h
end
end Ov
namespace Ov
open PySem (Str PyData)
open MV
section
variable {t : List Str}
theorem covers15_all (ht : Tx t) (hn : 0 < t.length) (hl : t.length ≤ 300) : ∀ (S : List Nat), (∀ c ∈ S, c ∈ covs t ∧ c < t.length) → ∀ {x0 x3 x4 x5 x6 x7 x8 : Option D}, ∃ y4, sForL (tgN 4) B__law_covers_right_l1 (S.map fun k : Nat => D.int (k : Int)) [x0, some (dT t), some (dN (covs t)), x3, x4, x5, x6, x7, x8] = .ok .nx [x0, some (dT t), some (dN (covs t)), x3, y4, x5, x6, x7, x8]
  | [], _, x0, x3, x4, x5, x6, x7, x8 => ⟨x4, rfl⟩
  | c :: S, hq, x0, x3, x4, x5, x6, x7, x8 => by
    obtain ⟨h1, h2⟩ := hq c List.mem_cons_self
    obtain ⟨y4, ih⟩ := covers15_all ht hn hl S (fun z hz => hq z (List.mem_cons_of_mem _ hz)) (x0 := x0) (x3 := x3) (x4 := some (.int (c : Int))) (x5 := x5) (x6 := x6) (x7 := x7) (x8 := x8)
    refine ⟨y4, ?_⟩
    rw [List.map_cons, for_step rfl (covers15_row ht hn hl h1 h2 (x0 := x0) (x3 := x3) (x5 := x5) (x6 := x6) (x7 := x7) (x8 := x8))]
    exact ih
theorem covs_map {ρ : Str → Str} (h : ∀ x y, Sg x → Sg y → ρ x = ρ y → x = y) (ht : Tx t) : covs (t.map ρ) = covs t := by
  unfold covs
  rw [List.length_map]
  refine List.filter_congr fun s _ => ?_
  unfold cov
  rw [← List.map_take, lies_map h ht (ht.take s), List.length_map]
theorem names15_lc (ht : Tx t) (hl : t.length ≤ 900) {L : List (Str × Str)} (q2 : L.map (·.1) = abcL) {x0 x1 x2 x3 x4 x6 x8 : Option D} : lcGo [7] (tgN 7) tTrue (e2 gDIx (eV 5) (eV 7)) (t.map D.str) [] [x0, x1, x2, x3, x4, some (.dic (L.map fun p => ((Sum.inr p.1 : L2.Key), D.str p.2))), x6, none, x8] = .ok ((t.map (rhoP L)).map D.str) [x0, x1, x2, x3, x4, some (.dic (L.map fun p => ((Sum.inr p.1 : L2.Key), D.str p.2))), x6, none, x8] := by
  have lc := lc_pure (is := [7]) (tg := tgN 7) (t := tTrue) (fe := e2 gDIx (eV 5) (eV 7)) (e := [x0, x1, x2, x3, x4, some (.dic (L.map fun p => ((Sum.inr p.1 : L2.Key), D.str p.2))), x6, none, x8]) (φ := D.str) (p := fun _ => true) (g := fun x => D.str (rhoP L x)) t [] (by show 0 + _ ≤ 100000; omega)
    (fun x hx => ⟨_, [x0, x1, x2, x3, x4, some (.dic (L.map fun p => ((Sum.inr p.1 : L2.Key), D.str p.2))), x6, some (.str x), x8], rfl, rfl, fun _ => ⟨[x0, x1, x2, x3, x4, some (.dic (L.map fun p => ((Sum.inr p.1 : L2.Key), D.str p.2))), x6, some (.str x), x8], by
      have dv := (dval_rhoP L x (by rw [q2]; exact (abcL_sg x).mpr (ht x hx))).1
      have gd : gDIx (.dic (L.map fun p => ((Sum.inr p.1 : L2.Key), D.str p.2))) (.str x) = some (.str (rhoP L x)) := by
        show (match (keyD (.str x)).map (fun k => dval (L.map fun p => ((Sum.inr p.1 : L2.Key), D.str p.2)) k) with | some (some d) => some d | _ => none) = _
        show (match some (dval (L.map fun p => ((Sum.inr p.1 : L2.Key), D.str p.2)) (Sum.inr x)) with | some (some d) => some d | _ => none) = _
        rw [dv]
      generalize (L.map fun p => ((Sum.inr p.1 : L2.Key), D.str p.2)) = DD at *
      simp [gd], rfl⟩, fun h => by cases h⟩)
  rw [List.filter_eq_self.mpr (fun _ _ => rfl), List.nil_append] at lc
  rw [lc, List.map_map]
  rfl
theorem covers15_ok {h : List Int} (hh : Hd h) (ht : Tx t) (t0 : t ≠ []) (hl : t.length ≤ 300) : ∃ h', F__law_covers_right [dI h, dT t, dN (covs t)] = .ok (.bl true) (dI h') ∧ Hd h' := by
  have hn : 0 < t.length := List.length_pos_iff.mpr t0
  have z0 : (0 : Nat) ≤ PySem.sizeLine := by decide
  obtain ⟨a, C, hc⟩ : ∃ a C, covs t = a :: C := by
    obtain ⟨r, hr⟩ := covs_last (t := t) hn
    cases q : covs t with
    | nil => rw [q] at hr; have := congrArg List.length hr; rw [List.length_append] at this; cases this
    | cons a C => exact ⟨a, C, rfl⟩
  obtain ⟨r0, hr⟩ := covs_last (t := t) hn
  have cl := covs_le15 (t := t)
  have gl : gLen [dT t] = some (.int (t.length : Int)) := by show some (D.int ((t.map D.str).length : Int)) = _; rw [List.length_map]
  have gc : gLen [dN (covs t)] = some (.int ((covs t).length : Int)) := gl_dN _
  have s1 : gSl (dN (covs t)) none (some (-1)) = some (dN r0) := by
    show some (D.lst (cutA ((covs t).map fun k : Nat => D.int (k : Int)) none (some (-1)))) = _
    rw [cutA_map, cutA_init, hr, List.dropLast_concat]
  have r0m : ∀ c ∈ r0, c ∈ covs t ∧ c < t.length := fun c h1 => by
    have sr := covs_srt t
    rw [hr] at sr
    exact ⟨by rw [hr]; exact List.mem_append_left _ h1, (List.pairwise_append.mp sr).2.2 _ h1 t.length List.mem_cons_self⟩
  have lr0 : (covs t).length = r0.length + 1 := by rw [hr, List.length_append]; rfl
  -- the ones that are looked at
  have k1 : sSet 3 (eSl (eV 2) oNone (oSome (e1 gNeg (eC (.int 1))))) [some (dI h), some (dT t), some (dN (covs t)), none, none, none, none, none, none] = .ok .nx [some (dI h), some (dT t), some (dN (covs t)), some (dN r0), none, none, none, none, none] := by
    generalize dN (covs t) = CC at *
    generalize dN r0 = RR at *
    generalize dT t = TT at *
    simp [s1]
  obtain ⟨S, h1, k2, hd1, hS⟩ : ∃ (S : List Nat) (h1 : List Int), sIf (tAnd2 (tB (e2 gGt (eN gLen (aCons (eV 1) aNil)) (eC (.int 40)))) (tB (e2 gNe (eV 3) (eN gLst aNil)))) (sSet 3 (eLc [8] (iN gR1 (aCons (eC (.int 6)) aNil)) (tgN 8) tTrue (e2 gIx (eV 2) (eCallW F__law_take 0 (aCons (e2 gSub (eN gLen (aCons (eV 2) aNil)) (eC (.int 1))) aNil))))) sSkip [some (dI h), some (dT t), some (dN (covs t)), some (dN r0), none, none, none, none, none] = .ok .nx [some (dI h1), some (dT t), some (dN (covs t)), some (dN S), none, none, none, none, none] ∧ Hd h1 ∧ ∀ c ∈ S, c ∈ covs t ∧ c < t.length := by
    have nr : gNe (dN r0) (.lst []) = some (.bl (!decide (r0 = []))) := gNe_dN r0 []
    by_cases c1 : 40 < t.length
    · have c1' : (40 : Int) < (t.length : Int) := by omega
      by_cases c2 : r0 = []
      · refine ⟨r0, h, ?_, hh, r0m⟩
        rw [decide_eq_true c2] at nr
        generalize dN (covs t) = CC at *
        generalize dN r0 = RR at *
        generalize dT t = TT at *
        simp [gl, c1', nr, hsz0]
      · have lr : 1 < (covs t).length := by have := List.length_pos_iff.mpr c2; omega
        obtain ⟨S, h1, g1, g2, g3⟩ := draw15 hh hn hl lr (x1 := some (dT t)) (x3 := some (dN r0)) (x4 := none) (x5 := none) (x6 := none) (x7 := none)
        refine ⟨S, h1, ?_, g2, g3⟩
        rw [decide_eq_false c2] at nr
        have s6 : smallI 6 = true := by decide
        have eS : dN S = .lst (S.map fun k : Nat => D.int (k : Int)) := rfl
        rw [eS]
        generalize dN (covs t) = CC at *
        generalize dN r0 = RR at *
        generalize dT t = TT at *
        generalize (S.map fun k : Nat => D.int (k : Int)) = SS at *
        simp [gl, c1', nr, hsz0, s6, g1]
    · have c1' : ¬ (40 : Int) < (t.length : Int) := by omega
      refine ⟨r0, h, ?_, hh, r0m⟩
      generalize dN (covs t) = CC at *
      generalize dN r0 = RR at *
      generalize dT t = TT at *
      simp [gl, c1', hsz0]
  obtain ⟨y4, lp⟩ := covers15_all ht hn hl S hS (x0 := some (dI h1)) (x3 := some (dN S)) (x4 := none) (x5 := none) (x6 := none) (x7 := none) (x8 := none)
  obtain ⟨b1, b2⟩ := bare15 ht t0 hl hc
  have sh := shortest_val ht t0 (by omega) hc
  obtain ⟨L, h2, rn, hd2, q2, q3⟩ := renamed3_val hd1
  have sgp : ∀ x, Sg x → x ∈ L.map (·.1) := fun x hx => by rw [q2]; exact (abcL_sg x).mpr hx
  have tm : Tx (t.map (rhoP L)) := fun x hx => by
    obtain ⟨y, hy, rfl⟩ := List.mem_map.mp hx
    obtain ⟨p, p1, p2, p3⟩ := (dval_rhoP L y (sgp y (ht y hy))).2
    rw [p3]
    exact (abcL_sg _).mp (q3.subset (List.mem_map.mpr ⟨p, p1, rfl⟩))
  have cm := covs_map (t := t) (fun x y hx hy e => rhoP_inj (q3.nodup_iff.mpr abcL_nodup) (sgp x hx) (sgp y hy) e) ht
  have nl := names15_lc ht (by omega) q2 (x0 := some (dI h2)) (x1 := some (dT t)) (x2 := some (dN (covs t))) (x3 := some (dN S)) (x4 := y4) (x6 := none) (x8 := none)
  have tr : Tx t.reverse := fun x hx => ht x (List.mem_reverse.mp hx)
  have av1 := all_covers_val tr (by simpa using t0) (by rw [List.length_reverse]; omega)
  rw [covs_rev] at av1
  have av2 := all_covers_val tm (by simpa using t0) (by rw [List.length_map]; omega)
  rw [cm] at av2
  have g1 : gRev (dT t) = some (dT t.reverse) := by
    show some (D.lst _) = some (D.lst _)
    rw [List.map_reverse]
  have x0 : gIx (dN (covs t)) (.int 0) = some (.int (a : Int)) := by rw [hc]; exact atI_eq ((a :: C).map fun k : Nat => D.int (k : Int)) 0
  have sl0 : gSl (dT t) none (some (a : Int)) = some (dT (t.take a)) := by
    show some (D.lst (cutA (t.map D.str) none (some (a : Int)))) = _
    rw [cutA_map]; exact congrArg (fun z => some (D.lst (z.map D.str))) (cutA_to t a)
  have eq1 : gEq (.int ((covs t).length : Int)) (.int 1) = some (.bl (decide ((covs t).length = 1))) := by
    have e : decide (((covs t).length : Int) = 1) = decide ((covs t).length = 1) := decide_eq_decide.mpr ⟨fun z => by omega, fun z => by omega⟩
    rw [gEq_i, e]
  have ne1 : ∀ b : Bool, gNe (.bl b) (.bl b) = some (.bl false) := fun b => by cases b <;> rfl
  have ne2 : gNe (.int (a : Int)) (.int (a : Int)) = some (.bl false) := gNe_self (lay_int _)
  have eqc : gEq (dN (covs t)) (dN (covs t)) = some (.bl true) := by rw [gEq_dN, decide_eq_true rfl]
  have iS : asL (dN S) = some (S.map fun k : Nat => D.int (k : Int)) := rfl
  refine ⟨h2, ?_, hd2⟩
  simp only [F__law_covers_right, r_runF]
  have e0 : envOf 9 [dI h, dT t, dN (covs t)] = [some (dI h), some (dT t), some (dN (covs t)), none, none, none, none, none, none] := rfl
  unfold B__law_covers_right
  rw [e0, r_sSeq, k1, rb_ok, sqK_nx, r_sSeq, k2, rb_ok, sqK_nx]
  have eM : dT (t.map (rhoP L)) = .lst ((t.map (rhoP L)).map D.str) := rfl
  rw [eM] at av2
  have at1 : asL (dT t) = some (t.map D.str) := rfl
  generalize decide ((covs t).length = 1) = bb at *
  generalize (t.map (rhoP L)).map D.str = TM at *
  generalize (L.map fun p => ((Sum.inr p.1 : L2.Key), D.str p.2)) = DD at *
  generalize (S.map fun k : Nat => D.int (k : Int)) = SM at *
  generalize dN S = SS at *
  generalize dN (covs t) = CC at *
  generalize dT (t.take a) = TA at *
  generalize dT t.reverse = TR at *
  generalize t.map D.str = TL at *
  generalize dT t = TT at *
  simp [iS, lp, x0, sl0, b1, b2, gc, eq1, ne1, ne2, sh, rn, at1, nl, g1, av1, av2, eqc, gNotB, List.all_map, -gIx_l, -gEq_i]
end
end Ov
namespace Ov
open PySem (Str PyData)
open MV
theorem k15_cell {q : D} {c : Int} {x2 x3 x4 x5 : Option D} : ∃ f2 f3 f4 f5, B_law_k15_l1 [some q, some (.int c), x2, x3, x4, x5] = .ok .nx [some q, some (.int c), f2, f3, f4, f5] := by
  obtain ⟨h, io, a1, a2⟩ := hand_ok c
  obtain ⟨z, n, h1, b1, b2, b3, b4, b5⟩ := letters_ok a2
  obtain ⟨t, h2, c1, c2, c3, c4⟩ := text_ok b2 b3 b4 b5
  have hsz : (1 : Nat) ≤ PySem.sizeLine := by decide
  have k1 : sSetW 2 (eCall F__law_hand (aCons (eV 1) aNil)) [some q, some (.int c), x2, x3, x4, x5] = .ok .nx [some q, some (.int c), some (dI h), x3, x4, x5] := by simp [a1, List.all_map]
  have k2 : sSet 3 (eCallW F__law_letters 2 aNil) [some q, some (.int c), some (dI h), x3, x4, x5] = .ok .nx [some q, some (.int c), some (dI h1), some (.str z), x4, x5] := by simp [b1, List.all_map]
  obtain ⟨u, u1, u2, u3, k3⟩ : ∃ u : List Str, Tx u ∧ u ≠ [] ∧ u.length ≤ 200 ∧ sSet 4 (eSl (eOrT (eCallW F__law_text 2 (aCons (eV 3) aNil)) (eN gLst (aCons (e2 gIx (eV 3) (eC (.int 0))) aNil))) oNone (oSome (eC (.int 200)))) [some q, some (.int c), some (dI h1), some (.str z), x4, x5] = .ok .nx [some q, some (.int c), some (dI h2), some (.str z), some (dT u), x5] := by
    by_cases h0 : t = []
    · obtain ⟨x, i1, i2⟩ := text1_ok b2 b3 b4 c2
      have hx : Tx [x] := fun y hy => by rw [List.mem_singleton.mp hy]; exact i2
      refine ⟨[x], hx, by simp, by simp, ?_⟩
      subst h0
      have cx : cutA [D.str x] none (some (200 : Int)) = [D.str x] := by
        have := cutA_to [D.str x] 200
        exact this
      have e1 : dT [x] = .lst [.str x] := rfl
      have c1 : F__law_text [dI h1, .str z] = .ok (.lst []) (dI h2) := c1
      rw [e1]
      simp [c1, i1, hsz, cx, List.all_map, -gIx_s]
    · refine ⟨t, c2, h0, c3, ?_⟩
      have cx : cutA (t.map D.str) none (some (200 : Int)) = t.map D.str := by
        rw [cutA_map]
        have := cutA_to t 200
        rw [List.take_of_length_le c3] at this
        exact congrArg _ this
      obtain ⟨a, r, rfl⟩ : ∃ a r, t = a :: r := by cases t with | nil => exact absurd rfl h0 | cons a r => exact ⟨a, r, rfl⟩
      have e1 : dT (a :: r) = .lst (.str a :: r.map D.str) := rfl
      rw [e1] at c1
      rw [List.map_cons] at cx
      rw [e1]
      generalize r.map D.str = RR at *
      simp [c1, cx, List.all_map]
  have hn : 0 < u.length := List.length_pos_iff.mpr u2
  have av := all_covers_val u1 u2 (by omega : u.length ≤ 900)
  obtain ⟨r0, hr⟩ := covs_last (t := u) hn
  have lst : gIx (dN (covs u)) (.int (-1)) = some (.int (u.length : Int)) := by rw [hr]; exact at_last _ _
  obtain ⟨io1, tr⟩ := tree15_ok u1 hn u3
  obtain ⟨h3, cr, d1⟩ := covers15_ok c4 u1 u2 (by omega : u.length ≤ 300)
  have cl := covs_le15 (t := u)
  have lc : 0 < (covs u).length := by rw [hr, List.length_append]; show 0 < _ + 1; omega
  obtain ⟨r, h4, t1, t2, t3⟩ := take_ok (m := (covs u).length) d1 (by omega) (by omega)
  have t2 : r < (covs u).length := by omega
  have ge : (covs u)[r]? = some (covs u)[r] := List.getElem?_eq_getElem t2
  have gi : gIx (dN (covs u)) (.int (r : Int)) = some (.int ((covs u)[r] : Nat)) := by
    show L2.atI ((covs u).map fun k : Nat => D.int (k : Int)) (r : Int) = _
    rw [atI_map, atI_eq, ge]; rfl
  obtain ⟨m1, m2, m3⟩ := covs_iff.mp (List.getElem_mem t2)
  generalize (covs u)[r] = s at *
  have ls : (u.take s).length = s := by rw [List.length_take]; omega
  have rc : reach (u.take s).length 0 (lies u (u.take s)) = u.length := by
    have h1 := (cov_iff m1 m2).mpr m3
    unfold cov at h1
    rw [ls]; exact of_decide_eq_true h1
  obtain ⟨io2, lr⟩ := layings15_ok u1 (u1.take s) u2 (List.length_pos_iff.mp (by omega)) (by omega) (by rw [ls]; exact m2) rc
  have gl : gLen [dT u] = some (.int (u.length : Int)) := by show some (D.int ((u.map D.str).length : Int)) = _; rw [List.length_map]
  have gc : gLen [dN (covs u)] = some (.int ((covs u).length : Int)) := gl_dN _
  have sl0 : gSl (dT u) none (some (s : Int)) = some (dT (u.take s)) := by
    show some (D.lst (cutA (u.map D.str) none (some (s : Int)))) = _
    rw [cutA_map]; exact congrArg (fun z => some (D.lst (z.map D.str))) (cutA_to u s)
  have ne1 : gNe (.int (u.length : Int)) (.int (u.length : Int)) = some (.bl false) := gNe_self (lay_int _)
  refine ⟨some (dI h4), some (.str z), some (dT u), some (dN (covs u)), ?_⟩
  unfold B_law_k15_l1
  rw [r_sSeq, k1, rb_ok, sqK_nx, r_sSeq, k2, rb_ok, sqK_nx, r_sSeq, k3, rb_ok, sqK_nx]
  generalize dT (u.take s) = TS at *
  generalize dN (covs u) = CC at *
  generalize dT u = TT at *
  simp [av, lst, gl, ne1, tr, cr, gc, t1, gi, sl0, lr, List.all_map, -gIx_l]
theorem true_law_k15 (ns : List Int) (hl : ns.length ≤ 63) : ∃ io, F_law_k15 [.lst (ns.map .int)] = .ok (.bl true) io := by
  obtain ⟨e', h1, x1, x2, x3, x4, x5, rfl⟩ := for_inv (tg := tgN 1) (b := B_law_k15_l1) (ds := D.int (10 ^ 18) :: (cutA ns none (some 6)).map D.int) (e := [some (.lst (ns.map .int)), none, none, none, none, none])
    (fun _ e => ∃ x1 x2 x3 x4 x5, e = [some (.lst (ns.map .int)), x1, x2, x3, x4, x5])
    ⟨none, none, none, none, none, rfl⟩
    (fun i d e hd hi => by
      obtain ⟨x1, x2, x3, x4, x5, rfl⟩ := hi
      obtain ⟨c, rfl⟩ := cells_get hd
      obtain ⟨f2, f3, f4, f5, a1⟩ := k15_cell (q := .lst (ns.map .int)) (c := c) (x2 := x2) (x3 := x3) (x4 := x4) (x5 := x5)
      exact ⟨_, _, .nx, rfl, a1, .inl rfl, _, _, _, _, _, rfl⟩)
  have hp : L2.CPow 10 18 := ⟨by decide, by decide, by decide⟩
  have hsz : (1 : Nat) ≤ PySem.sizeLine := by decide
  have hc := cutA_len ns none (some 6)
  have hL : 1 + (cutA ns none (some 6)).length ≤ LIM := by show _ ≤ 100000; omega
  refine ⟨.lst (ns.map .int), ?_⟩
  simp only [F_law_k15, r_runF, B_law_k15]
  simp at h1
  simp [hp, hsz, List.all_map, cutA_map, hL, h1]
end Ov
namespace Lk15
open PySem PySem.Spec PyProof.Rows L2 MV Ov
def topS (i : Nat) : Stmt := PySem.Challenge.pw_overlaid_k15_whole_covers.main.body.getD i (.Pass ⟨0, 0, 0, 0⟩)
abbrev s_need_word : Stmt := topS 8
abbrev N_need_word : List Str := [Str.ofString "word"]
abbrev ps_need_word : List Str := [Str.ofString "word"]
theorem sc_need_word : FnScope N_need_word ps_need_word (defScope s_need_word) := ⟨rfl, rfl, rfl, by decide +kernel, rfl, by decide +kernel, by decide +kernel⟩
def cf_need_word (K : PySem.W.Frag) (mg : Str → Option Value) : Cf := ⟨K, fun i => [Kd.S].getD i .S, cvK K⟩
abbrev s_need_signs : Stmt := topS 9
abbrev N_need_signs : List Str := [Str.ofString "signs", Str.ofString "sign"]
abbrev ps_need_signs : List Str := [Str.ofString "signs"]
theorem sc_need_signs : FnScope N_need_signs ps_need_signs (defScope s_need_signs) := ⟨rfl, rfl, rfl, by decide +kernel, rfl, by decide +kernel, by decide +kernel⟩
def cf_need_signs (K : PySem.W.Frag) (mg : Str → Option Value) : Cf := ⟨K, fun i => [Kd.S, Kd.S].getD i .S, cvK K⟩
abbrev s_need_text : Stmt := topS 10
abbrev N_need_text : List Str := [Str.ofString "text"]
abbrev ps_need_text : List Str := [Str.ofString "text"]
theorem sc_need_text : FnScope N_need_text ps_need_text (defScope s_need_text) := ⟨rfl, rfl, rfl, by decide +kernel, rfl, by decide +kernel, by decide +kernel⟩
def cf_need_text (K : PySem.W.Frag) (mg : Str → Option Value) : Cf := ⟨K, fun i => [Kd.S].getD i .S, cvK K⟩
abbrev s_greatest_borders : Stmt := topS 11
abbrev N_greatest_borders : List Str := [Str.ofString "text", Str.ofString "found", Str.ofString "border", Str.ofString "place", Str.ofString "sign"]
abbrev ps_greatest_borders : List Str := [Str.ofString "text"]
theorem sc_greatest_borders : FnScope N_greatest_borders ps_greatest_borders (defScope s_greatest_borders) := ⟨rfl, rfl, rfl, by decide +kernel, rfl, by decide +kernel, by decide +kernel⟩
def cf_greatest_borders (K : PySem.W.Frag) (mg : Str → Option Value) : Cf := ⟨K, fun i => [Kd.S, Kd.M, Kd.S, Kd.S, Kd.S].getD i .S, cvK K⟩
abbrev s_laid_at : Stmt := topS 13
abbrev N_laid_at : List Str := [Str.ofString "text", Str.ofString "word", Str.ofString "size", Str.ofString "place"]
abbrev ps_laid_at : List Str := [Str.ofString "text", Str.ofString "word"]
theorem sc_laid_at : FnScope N_laid_at ps_laid_at (defScope s_laid_at) := ⟨rfl, rfl, rfl, by decide +kernel, rfl, by decide +kernel, by decide +kernel⟩
def cf_laid_at (K : PySem.W.Frag) (mg : Str → Option Value) : Cf := ⟨K, fun i => [Kd.S, Kd.S, Kd.S, Kd.S].getD i .S, cvK K⟩
abbrev s_first_bare : Stmt := topS 17
abbrev N_first_bare : List Str := [Str.ofString "size", Str.ofString "places", Str.ofString "end", Str.ofString "reached", Str.ofString "place"]
abbrev ps_first_bare : List Str := [Str.ofString "size", Str.ofString "places", Str.ofString "end"]
theorem sc_first_bare : FnScope N_first_bare ps_first_bare (defScope s_first_bare) := ⟨rfl, rfl, rfl, by decide +kernel, rfl, by decide +kernel, by decide +kernel⟩
def cf_first_bare (K : PySem.W.Frag) (mg : Str → Option Value) : Cf := ⟨K, fun i => [Kd.S, Kd.S, Kd.S, Kd.N, Kd.S].getD i .S, cvK K⟩
abbrev s__law_hand : Stmt := topS 33
abbrev N__law_hand : List Str := [Str.ofString "cell"]
abbrev ps__law_hand : List Str := [Str.ofString "cell"]
theorem sc__law_hand : FnScope N__law_hand ps__law_hand (defScope s__law_hand) := ⟨rfl, rfl, rfl, by decide +kernel, rfl, by decide +kernel, by decide +kernel⟩
def cf__law_hand (K : PySem.W.Frag) (mg : Str → Option Value) : Cf := ⟨K, fun i => [Kd.S].getD i .S, cvK K⟩
abbrev s__law_take : Stmt := topS 34
abbrev N__law_take : List Str := [Str.ofString "hand", Str.ofString "many", Str.ofString "taken"]
abbrev ps__law_take : List Str := [Str.ofString "hand", Str.ofString "many"]
theorem sc__law_take : FnScope N__law_take ps__law_take (defScope s__law_take) := ⟨rfl, rfl, rfl, by decide +kernel, rfl, by decide +kernel, by decide +kernel⟩
def cf__law_take (K : PySem.W.Frag) (mg : Str → Option Value) : Cf := ⟨K, fun i => [Kd.W, Kd.S, Kd.N].getD i .S, cvK K⟩
abbrev s__law_ends : Stmt := topS 37
abbrev N__law_ends : List Str := [Str.ofString "text", Str.ofString "k"]
abbrev ps__law_ends : List Str := [Str.ofString "text"]
theorem sc__law_ends : FnScope N__law_ends ps__law_ends (defScope s__law_ends) := ⟨rfl, rfl, rfl, by decide +kernel, rfl, by decide +kernel, by decide +kernel⟩
def cf__law_ends (K : PySem.W.Frag) (mg : Str → Option Value) : Cf := ⟨K, fun i => [Kd.S, Kd.S].getD i .S, cvK K⟩
abbrev s_borders : Stmt := topS 12
abbrev N_borders : List Str := [Str.ofString "text", Str.ofString "found", Str.ofString "greatest", Str.ofString "border"]
abbrev ps_borders : List Str := [Str.ofString "text"]
theorem sc_borders : FnScope N_borders ps_borders (defScope s_borders) := ⟨rfl, rfl, rfl, by decide +kernel, rfl, by decide +kernel, by decide +kernel⟩
def cf_borders (K : PySem.W.Frag) (mg : Str → Option Value) : Cf := ⟨K, fun i => [Kd.S, Kd.M, Kd.S, Kd.S].getD i .S, cvK K⟩
abbrev s_lies_at : Stmt := topS 14
abbrev N_lies_at : List Str := [Str.ofString "text", Str.ofString "word"]
abbrev ps_lies_at : List Str := [Str.ofString "text", Str.ofString "word"]
theorem sc_lies_at : FnScope N_lies_at ps_lies_at (defScope s_lies_at) := ⟨rfl, rfl, rfl, by decide +kernel, rfl, by decide +kernel, by decide +kernel⟩
def cf_lies_at (K : PySem.W.Frag) (mg : Str → Option Value) : Cf := ⟨K, fun i => [Kd.S, Kd.S].getD i .S, cvK K⟩
abbrev s_need_both : Stmt := topS 16
abbrev N_need_both : List Str := [Str.ofString "text", Str.ofString "word"]
abbrev ps_need_both : List Str := [Str.ofString "text", Str.ofString "word"]
theorem sc_need_both : FnScope N_need_both ps_need_both (defScope s_need_both) := ⟨rfl, rfl, rfl, by decide +kernel, rfl, by decide +kernel, by decide +kernel⟩
def cf_need_both (K : PySem.W.Frag) (mg : Str → Option Value) : Cf := ⟨K, fun i => [Kd.S, Kd.S].getD i .S, cvK K⟩
abbrev s_greatest_covers : Stmt := topS 27
abbrev N_greatest_covers : List Str := [Str.ofString "text", Str.ofString "borders", Str.ofString "reached", Str.ofString "found", Str.ofString "end", Str.ofString "greatest", Str.ofString "size"]
abbrev ps_greatest_covers : List Str := [Str.ofString "text"]
theorem sc_greatest_covers : FnScope N_greatest_covers ps_greatest_covers (defScope s_greatest_covers) := ⟨rfl, rfl, rfl, by decide +kernel, rfl, by decide +kernel, by decide +kernel⟩
def cf_greatest_covers (K : PySem.W.Frag) (mg : Str → Option Value) : Cf := ⟨K, fun i => [Kd.S, Kd.S, Kd.M, Kd.M, Kd.S, Kd.S, Kd.S].getD i .S, cvK K⟩
abbrev s__law_letters : Stmt := topS 35
abbrev N__law_letters : List Str := [Str.ofString "hand", Str.ofString "left", Str.ofString "found", Str.ofString "k", Str.ofString "at"]
abbrev ps__law_letters : List Str := [Str.ofString "hand"]
theorem sc__law_letters : FnScope N__law_letters ps__law_letters (defScope s__law_letters) := ⟨rfl, rfl, rfl, by decide +kernel, rfl, by decide +kernel, by decide +kernel⟩
def cf__law_letters (K : PySem.W.Frag) (mg : Str → Option Value) : Cf := ⟨K, fun i => [Kd.W, Kd.S, Kd.N, Kd.S, Kd.S].getD i .S, cvK K⟩
abbrev s__law_signs : Stmt := topS 36
abbrev N__law_signs : List Str := [Str.ofString "hand", Str.ofString "letters", Str.ofString "many", Str.ofString "k"]
abbrev ps__law_signs : List Str := [Str.ofString "hand", Str.ofString "letters", Str.ofString "many"]
theorem sc__law_signs : FnScope N__law_signs ps__law_signs (defScope s__law_signs) := ⟨rfl, rfl, rfl, by decide +kernel, rfl, by decide +kernel, by decide +kernel⟩
def cf__law_signs (K : PySem.W.Frag) (mg : Str → Option Value) : Cf := ⟨K, fun i => [Kd.W, Kd.S, Kd.S, Kd.S].getD i .S, cvK K⟩
abbrev s__law_laid : Stmt := topS 38
abbrev N__law_laid : List Str := [Str.ofString "hand", Str.ofString "word", Str.ofString "most", Str.ofString "found", Str.ofString "some", Str.ofString "k", Str.ofString "at"]
abbrev ps__law_laid : List Str := [Str.ofString "hand", Str.ofString "word", Str.ofString "most"]
theorem sc__law_laid : FnScope N__law_laid ps__law_laid (defScope s__law_laid) := ⟨rfl, rfl, rfl, by decide +kernel, rfl, by decide +kernel, by decide +kernel⟩
def cf__law_laid (K : PySem.W.Frag) (mg : Str → Option Value) : Cf := ⟨K, fun i => [Kd.W, Kd.S, Kd.S, Kd.N, Kd.S, Kd.S, Kd.S].getD i .S, cvK K⟩
abbrev s__law_renamed : Stmt := topS 40
abbrev N__law_renamed : List Str := [Str.ofString "hand", Str.ofString "left", Str.ofString "sign"]
abbrev ps__law_renamed : List Str := [Str.ofString "hand"]
theorem sc__law_renamed : FnScope N__law_renamed ps__law_renamed (defScope s__law_renamed) := ⟨rfl, rfl, rfl, by decide +kernel, rfl, by decide +kernel, by decide +kernel⟩
def cf__law_renamed (K : PySem.W.Frag) (mg : Str → Option Value) : Cf := ⟨K, fun i => [Kd.W, Kd.W, Kd.S].getD i .S, cvK K⟩
abbrev s_covered : Stmt := topS 18
abbrev N_covered : List Str := [Str.ofString "text", Str.ofString "word", Str.ofString "places", Str.ofString "bare"]
abbrev ps_covered : List Str := [Str.ofString "text", Str.ofString "word"]
theorem sc_covered : FnScope N_covered ps_covered (defScope s_covered) := ⟨rfl, rfl, rfl, by decide +kernel, rfl, by decide +kernel, by decide +kernel⟩
def cf_covered (K : PySem.W.Frag) (mg : Str → Option Value) : Cf := ⟨K, fun i => [Kd.S, Kd.S, Kd.N, Kd.N].getD i .S, cvK K⟩
abbrev s_is_laying : Stmt := topS 22
abbrev N_is_laying : List Str := [Str.ofString "text", Str.ofString "word", Str.ofString "places", Str.ofString "known", Str.ofString "place"]
abbrev ps_is_laying : List Str := [Str.ofString "text", Str.ofString "word", Str.ofString "places"]
theorem sc_is_laying : FnScope N_is_laying ps_is_laying (defScope s_is_laying) := ⟨rfl, rfl, rfl, by decide +kernel, rfl, by decide +kernel, by decide +kernel⟩
def cf_is_laying (K : PySem.W.Frag) (mg : Str → Option Value) : Cf := ⟨K, fun i => [Kd.S, Kd.S, Kd.S, Kd.S, Kd.S].getD i .S, cvK K⟩
abbrev s_onward : Stmt := topS 23
abbrev N_onward : List Str := [Str.ofString "text", Str.ofString "word", Str.ofString "places", Str.ofString "fewest", Str.ofString "place", Str.ofString "some", Str.ofString "other"]
abbrev ps_onward : List Str := [Str.ofString "text", Str.ofString "word"]
theorem sc_onward : FnScope N_onward ps_onward (defScope s_onward) := ⟨rfl, rfl, rfl, by decide +kernel, rfl, by decide +kernel, by decide +kernel⟩
def cf_onward (K : PySem.W.Frag) (mg : Str → Option Value) : Cf := ⟨K, fun i => [Kd.S, Kd.S, Kd.S, Kd.M, Kd.S, Kd.S, Kd.S].getD i .S, cvK K⟩
abbrev s_how_many_layings : Stmt := topS 25
abbrev N_how_many_layings : List Str := [Str.ofString "text", Str.ofString "word", Str.ofString "ways", Str.ofString "place", Str.ofString "near", Str.ofString "other"]
abbrev ps_how_many_layings : List Str := [Str.ofString "text", Str.ofString "word"]
theorem sc_how_many_layings : FnScope N_how_many_layings ps_how_many_layings (defScope s_how_many_layings) := ⟨rfl, rfl, rfl, by decide +kernel, rfl, by decide +kernel, by decide +kernel⟩
def cf_how_many_layings (K : PySem.W.Frag) (mg : Str → Option Value) : Cf := ⟨K, fun i => [Kd.S, Kd.S, Kd.M, Kd.S, Kd.S, Kd.S].getD i .S, cvK K⟩
abbrev s_shortest_covers : Stmt := topS 28
abbrev N_shortest_covers : List Str := [Str.ofString "text", Str.ofString "found", Str.ofString "place", Str.ofString "greatest"]
abbrev ps_shortest_covers : List Str := [Str.ofString "text"]
theorem sc_shortest_covers : FnScope N_shortest_covers ps_shortest_covers (defScope s_shortest_covers) := ⟨rfl, rfl, rfl, by decide +kernel, rfl, by decide +kernel, by decide +kernel⟩
def cf_shortest_covers (K : PySem.W.Frag) (mg : Str → Option Value) : Cf := ⟨K, fun i => [Kd.S, Kd.M, Kd.S, Kd.S].getD i .S, cvK K⟩
abbrev s_cover_tree : Stmt := topS 29
abbrev N_cover_tree : List Str := [Str.ofString "text", Str.ofString "found", Str.ofString "place", Str.ofString "greatest", Str.ofString "length"]
abbrev ps_cover_tree : List Str := [Str.ofString "text"]
theorem sc_cover_tree : FnScope N_cover_tree ps_cover_tree (defScope s_cover_tree) := ⟨rfl, rfl, rfl, by decide +kernel, rfl, by decide +kernel, by decide +kernel⟩
def cf_cover_tree (K : PySem.W.Frag) (mg : Str → Option Value) : Cf := ⟨K, fun i => [Kd.S, Kd.P, Kd.S, Kd.S, Kd.S].getD i .S, cvK K⟩
abbrev s_how_many_covers : Stmt := topS 30
abbrev N_how_many_covers : List Str := [Str.ofString "text", Str.ofString "found", Str.ofString "greatest", Str.ofString "more"]
abbrev ps_how_many_covers : List Str := [Str.ofString "text"]
theorem sc_how_many_covers : FnScope N_how_many_covers ps_how_many_covers (defScope s_how_many_covers) := ⟨rfl, rfl, rfl, by decide +kernel, rfl, by decide +kernel, by decide +kernel⟩
def cf_how_many_covers (K : PySem.W.Frag) (mg : Str → Option Value) : Cf := ⟨K, fun i => [Kd.S, Kd.M, Kd.S, Kd.S].getD i .S, cvK K⟩
abbrev s_covered_beginnings : Stmt := topS 31
abbrev N_covered_beginnings : List Str := [Str.ofString "text", Str.ofString "word", Str.ofString "found", Str.ofString "place"]
abbrev ps_covered_beginnings : List Str := [Str.ofString "text", Str.ofString "word"]
theorem sc_covered_beginnings : FnScope N_covered_beginnings ps_covered_beginnings (defScope s_covered_beginnings) := ⟨rfl, rfl, rfl, by decide +kernel, rfl, by decide +kernel, by decide +kernel⟩
def cf_covered_beginnings (K : PySem.W.Frag) (mg : Str → Option Value) : Cf := ⟨K, fun i => [Kd.S, Kd.S, Kd.M, Kd.S].getD i .S, cvK K⟩
abbrev s__law_text : Stmt := topS 39
abbrev N__law_text : List Str := [Str.ofString "hand", Str.ofString "letters", Str.ofString "most", Str.ofString "text", Str.ofString "turn", Str.ofString "way", Str.ofString "at"]
abbrev ps__law_text : List Str := [Str.ofString "hand", Str.ofString "letters"]
theorem sc__law_text : FnScope N__law_text ps__law_text (defScope s__law_text) := ⟨rfl, rfl, rfl, by decide +kernel, rfl, by decide +kernel, by decide +kernel⟩
def cf__law_text (K : PySem.W.Frag) (mg : Str → Option Value) : Cf := ⟨K, fun i => [Kd.W, Kd.S, Kd.S, Kd.M, Kd.S, Kd.S, Kd.S].getD i .S, cvK K⟩
abbrev s_all_covers : Stmt := topS 19
abbrev N_all_covers : List Str := [Str.ofString "text", Str.ofString "some", Str.ofString "size"]
abbrev ps_all_covers : List Str := [Str.ofString "text"]
theorem sc_all_covers : FnScope N_all_covers ps_all_covers (defScope s_all_covers) := ⟨rfl, rfl, rfl, by decide +kernel, rfl, by decide +kernel, by decide +kernel⟩
def cf_all_covers (K : PySem.W.Frag) (mg : Str → Option Value) : Cf := ⟨K, fun i => [Kd.S, Kd.S, Kd.S].getD i .S, cvK K⟩
abbrev s_fewest_layings : Stmt := topS 24
abbrev N_fewest_layings : List Str := [Str.ofString "text", Str.ofString "word", Str.ofString "fewest", Str.ofString "found", Str.ofString "there", Str.ofString "near", Str.ofString "place"]
abbrev ps_fewest_layings : List Str := [Str.ofString "text", Str.ofString "word"]
theorem sc_fewest_layings : FnScope N_fewest_layings ps_fewest_layings (defScope s_fewest_layings) := ⟨rfl, rfl, rfl, by decide +kernel, rfl, by decide +kernel, by decide +kernel⟩
def cf_fewest_layings (K : PySem.W.Frag) (mg : Str → Option Value) : Cf := ⟨K, fun i => [Kd.S, Kd.S, Kd.S, Kd.M, Kd.S, Kd.S, Kd.S].getD i .S, cvK K⟩
abbrev s__law_tree_right : Stmt := topS 41
abbrev N__law_tree_right : List Str := [Str.ofString "text", Str.ofString "covers", Str.ofString "size", Str.ofString "tree", Str.ofString "above", Str.ofString "found", Str.ofString "here"]
abbrev ps__law_tree_right : List Str := [Str.ofString "text", Str.ofString "covers"]
theorem sc__law_tree_right : FnScope N__law_tree_right ps__law_tree_right (defScope s__law_tree_right) := ⟨rfl, rfl, rfl, by decide +kernel, rfl, by decide +kernel, by decide +kernel⟩
def cf__law_tree_right (K : PySem.W.Frag) (mg : Str → Option Value) : Cf := ⟨K, fun i => [Kd.S, Kd.S, Kd.S, Kd.S, Kd.S, Kd.M, Kd.S].getD i .S, cvK K⟩
abbrev s_shortest_cover : Stmt := topS 20
abbrev N_shortest_cover : List Str := [Str.ofString "text"]
abbrev ps_shortest_cover : List Str := [Str.ofString "text"]
theorem sc_shortest_cover : FnScope N_shortest_cover ps_shortest_cover (defScope s_shortest_cover) := ⟨rfl, rfl, rfl, by decide +kernel, rfl, by decide +kernel, by decide +kernel⟩
def cf_shortest_cover (K : PySem.W.Frag) (mg : Str → Option Value) : Cf := ⟨K, fun i => [Kd.S].getD i .S, cvK K⟩
abbrev s__law_layings_right : Stmt := topS 43
abbrev N__law_layings_right : List Str := [Str.ofString "text", Str.ofString "word", Str.ofString "places", Str.ofString "fewest", Str.ofString "at", Str.ofString "many"]
abbrev ps__law_layings_right : List Str := [Str.ofString "text", Str.ofString "word"]
theorem sc__law_layings_right : FnScope N__law_layings_right ps__law_layings_right (defScope s__law_layings_right) := ⟨rfl, rfl, rfl, by decide +kernel, rfl, by decide +kernel, by decide +kernel⟩
def cf__law_layings_right (K : PySem.W.Frag) (mg : Str → Option Value) : Cf := ⟨K, fun i => [Kd.S, Kd.S, Kd.S, Kd.S, Kd.S, Kd.S].getD i .S, cvK K⟩
abbrev s_is_bare : Stmt := topS 21
abbrev N_is_bare : List Str := [Str.ofString "text"]
abbrev ps_is_bare : List Str := [Str.ofString "text"]
theorem sc_is_bare : FnScope N_is_bare ps_is_bare (defScope s_is_bare) := ⟨rfl, rfl, rfl, by decide +kernel, rfl, by decide +kernel, by decide +kernel⟩
def cf_is_bare (K : PySem.W.Frag) (mg : Str → Option Value) : Cf := ⟨K, fun i => [Kd.S].getD i .S, cvK K⟩
abbrev s__law_covers_right : Stmt := topS 42
abbrev N__law_covers_right : List Str := [Str.ofString "hand", Str.ofString "text", Str.ofString "covers", Str.ofString "some", Str.ofString "cover", Str.ofString "names", Str.ofString "called", Str.ofString "sign", Str.ofString "k"]
abbrev ps__law_covers_right : List Str := [Str.ofString "hand", Str.ofString "text", Str.ofString "covers"]
theorem sc__law_covers_right : FnScope N__law_covers_right ps__law_covers_right (defScope s__law_covers_right) := ⟨rfl, rfl, rfl, by decide +kernel, rfl, by decide +kernel, by decide +kernel⟩
def cf__law_covers_right (K : PySem.W.Frag) (mg : Str → Option Value) : Cf := ⟨K, fun i => [Kd.W, Kd.S, Kd.S, Kd.S, Kd.S, Kd.S, Kd.S, Kd.S, Kd.S].getD i .S, cvK K⟩
abbrev s_law : Stmt := topS 44
abbrev N_law : List Str := [Str.ofString "script", Str.ofString "cell", Str.ofString "hand", Str.ofString "letters", Str.ofString "text", Str.ofString "covers"]
abbrev ps_law : List Str := [Str.ofString "script"]
theorem sc_law : FnScope N_law ps_law (defScope s_law) := ⟨rfl, rfl, rfl, by decide +kernel, rfl, by decide +kernel, by decide +kernel⟩
def cf_law (K : PySem.W.Frag) (mg : Str → Option Value) : Cf := ⟨K, fun i => [Kd.Q, Kd.S, Kd.W, Kd.S, Kd.S, Kd.S].getD i .S, cvK K⟩
structure Tp (K : PySem.W.Frag) (mg : Str → Option Value) where
  f_need_word : Addr
  d_need_word : FuncData
  F_need_word : Fun K (Str.ofString "need_word") (Str.ofString "need_word") s_need_word f_need_word d_need_word
  g_need_word : mg (Str.ofString "need_word") = some (.ref f_need_word)
  b_need_word : Binds K d_need_word ps_need_word []
  f_need_signs : Addr
  d_need_signs : FuncData
  F_need_signs : Fun K (Str.ofString "need_signs") (Str.ofString "need_signs") s_need_signs f_need_signs d_need_signs
  g_need_signs : mg (Str.ofString "need_signs") = some (.ref f_need_signs)
  b_need_signs : Binds K d_need_signs ps_need_signs []
  f_need_text : Addr
  d_need_text : FuncData
  F_need_text : Fun K (Str.ofString "need_text") (Str.ofString "need_text") s_need_text f_need_text d_need_text
  g_need_text : mg (Str.ofString "need_text") = some (.ref f_need_text)
  b_need_text : Binds K d_need_text ps_need_text []
  f_greatest_borders : Addr
  d_greatest_borders : FuncData
  F_greatest_borders : Fun K (Str.ofString "greatest_borders") (Str.ofString "greatest_borders") s_greatest_borders f_greatest_borders d_greatest_borders
  g_greatest_borders : mg (Str.ofString "greatest_borders") = some (.ref f_greatest_borders)
  b_greatest_borders : Binds K d_greatest_borders ps_greatest_borders []
  f_laid_at : Addr
  d_laid_at : FuncData
  F_laid_at : Fun K (Str.ofString "laid_at") (Str.ofString "laid_at") s_laid_at f_laid_at d_laid_at
  g_laid_at : mg (Str.ofString "laid_at") = some (.ref f_laid_at)
  b_laid_at : Binds K d_laid_at ps_laid_at []
  f_first_bare : Addr
  d_first_bare : FuncData
  F_first_bare : Fun K (Str.ofString "first_bare") (Str.ofString "first_bare") s_first_bare f_first_bare d_first_bare
  g_first_bare : mg (Str.ofString "first_bare") = some (.ref f_first_bare)
  b_first_bare : Binds K d_first_bare ps_first_bare []
  f__law_hand : Addr
  d__law_hand : FuncData
  F__law_hand : Fun K (Str.ofString "_law_hand") (Str.ofString "_law_hand") s__law_hand f__law_hand d__law_hand
  g__law_hand : mg (Str.ofString "_law_hand") = some (.ref f__law_hand)
  b__law_hand : Binds K d__law_hand ps__law_hand []
  f__law_take : Addr
  d__law_take : FuncData
  F__law_take : Fun K (Str.ofString "_law_take") (Str.ofString "_law_take") s__law_take f__law_take d__law_take
  g__law_take : mg (Str.ofString "_law_take") = some (.ref f__law_take)
  b__law_take : Binds K d__law_take ps__law_take []
  f__law_ends : Addr
  d__law_ends : FuncData
  F__law_ends : Fun K (Str.ofString "_law_ends") (Str.ofString "_law_ends") s__law_ends f__law_ends d__law_ends
  g__law_ends : mg (Str.ofString "_law_ends") = some (.ref f__law_ends)
  b__law_ends : Binds K d__law_ends ps__law_ends []
  f_borders : Addr
  d_borders : FuncData
  F_borders : Fun K (Str.ofString "borders") (Str.ofString "borders") s_borders f_borders d_borders
  g_borders : mg (Str.ofString "borders") = some (.ref f_borders)
  b_borders : Binds K d_borders ps_borders []
  f_lies_at : Addr
  d_lies_at : FuncData
  F_lies_at : Fun K (Str.ofString "lies_at") (Str.ofString "lies_at") s_lies_at f_lies_at d_lies_at
  g_lies_at : mg (Str.ofString "lies_at") = some (.ref f_lies_at)
  b_lies_at : Binds K d_lies_at ps_lies_at []
  f_need_both : Addr
  d_need_both : FuncData
  F_need_both : Fun K (Str.ofString "need_both") (Str.ofString "need_both") s_need_both f_need_both d_need_both
  g_need_both : mg (Str.ofString "need_both") = some (.ref f_need_both)
  b_need_both : Binds K d_need_both ps_need_both []
  f_greatest_covers : Addr
  d_greatest_covers : FuncData
  F_greatest_covers : Fun K (Str.ofString "greatest_covers") (Str.ofString "greatest_covers") s_greatest_covers f_greatest_covers d_greatest_covers
  g_greatest_covers : mg (Str.ofString "greatest_covers") = some (.ref f_greatest_covers)
  b_greatest_covers : Binds K d_greatest_covers ps_greatest_covers []
  f__law_letters : Addr
  d__law_letters : FuncData
  F__law_letters : Fun K (Str.ofString "_law_letters") (Str.ofString "_law_letters") s__law_letters f__law_letters d__law_letters
  g__law_letters : mg (Str.ofString "_law_letters") = some (.ref f__law_letters)
  b__law_letters : Binds K d__law_letters ps__law_letters []
  f__law_signs : Addr
  d__law_signs : FuncData
  F__law_signs : Fun K (Str.ofString "_law_signs") (Str.ofString "_law_signs") s__law_signs f__law_signs d__law_signs
  g__law_signs : mg (Str.ofString "_law_signs") = some (.ref f__law_signs)
  b__law_signs : Binds K d__law_signs ps__law_signs []
  f__law_laid : Addr
  d__law_laid : FuncData
  F__law_laid : Fun K (Str.ofString "_law_laid") (Str.ofString "_law_laid") s__law_laid f__law_laid d__law_laid
  g__law_laid : mg (Str.ofString "_law_laid") = some (.ref f__law_laid)
  b__law_laid : Binds K d__law_laid ps__law_laid []
  f__law_renamed : Addr
  d__law_renamed : FuncData
  F__law_renamed : Fun K (Str.ofString "_law_renamed") (Str.ofString "_law_renamed") s__law_renamed f__law_renamed d__law_renamed
  g__law_renamed : mg (Str.ofString "_law_renamed") = some (.ref f__law_renamed)
  b__law_renamed : Binds K d__law_renamed ps__law_renamed []
  f_covered : Addr
  d_covered : FuncData
  F_covered : Fun K (Str.ofString "covered") (Str.ofString "covered") s_covered f_covered d_covered
  g_covered : mg (Str.ofString "covered") = some (.ref f_covered)
  b_covered : Binds K d_covered ps_covered []
  f_is_laying : Addr
  d_is_laying : FuncData
  F_is_laying : Fun K (Str.ofString "is_laying") (Str.ofString "is_laying") s_is_laying f_is_laying d_is_laying
  g_is_laying : mg (Str.ofString "is_laying") = some (.ref f_is_laying)
  b_is_laying : Binds K d_is_laying ps_is_laying []
  f_onward : Addr
  d_onward : FuncData
  F_onward : Fun K (Str.ofString "onward") (Str.ofString "onward") s_onward f_onward d_onward
  g_onward : mg (Str.ofString "onward") = some (.ref f_onward)
  b_onward : Binds K d_onward ps_onward []
  f_how_many_layings : Addr
  d_how_many_layings : FuncData
  F_how_many_layings : Fun K (Str.ofString "how_many_layings") (Str.ofString "how_many_layings") s_how_many_layings f_how_many_layings d_how_many_layings
  g_how_many_layings : mg (Str.ofString "how_many_layings") = some (.ref f_how_many_layings)
  b_how_many_layings : Binds K d_how_many_layings ps_how_many_layings []
  f_shortest_covers : Addr
  d_shortest_covers : FuncData
  F_shortest_covers : Fun K (Str.ofString "shortest_covers") (Str.ofString "shortest_covers") s_shortest_covers f_shortest_covers d_shortest_covers
  g_shortest_covers : mg (Str.ofString "shortest_covers") = some (.ref f_shortest_covers)
  b_shortest_covers : Binds K d_shortest_covers ps_shortest_covers []
  f_cover_tree : Addr
  d_cover_tree : FuncData
  F_cover_tree : Fun K (Str.ofString "cover_tree") (Str.ofString "cover_tree") s_cover_tree f_cover_tree d_cover_tree
  g_cover_tree : mg (Str.ofString "cover_tree") = some (.ref f_cover_tree)
  b_cover_tree : Binds K d_cover_tree ps_cover_tree []
  f_how_many_covers : Addr
  d_how_many_covers : FuncData
  F_how_many_covers : Fun K (Str.ofString "how_many_covers") (Str.ofString "how_many_covers") s_how_many_covers f_how_many_covers d_how_many_covers
  g_how_many_covers : mg (Str.ofString "how_many_covers") = some (.ref f_how_many_covers)
  b_how_many_covers : Binds K d_how_many_covers ps_how_many_covers []
  f_covered_beginnings : Addr
  d_covered_beginnings : FuncData
  F_covered_beginnings : Fun K (Str.ofString "covered_beginnings") (Str.ofString "covered_beginnings") s_covered_beginnings f_covered_beginnings d_covered_beginnings
  g_covered_beginnings : mg (Str.ofString "covered_beginnings") = some (.ref f_covered_beginnings)
  b_covered_beginnings : Binds K d_covered_beginnings ps_covered_beginnings []
  f__law_text : Addr
  d__law_text : FuncData
  F__law_text : Fun K (Str.ofString "_law_text") (Str.ofString "_law_text") s__law_text f__law_text d__law_text
  g__law_text : mg (Str.ofString "_law_text") = some (.ref f__law_text)
  b__law_text : Binds K d__law_text ps__law_text []
  f_all_covers : Addr
  d_all_covers : FuncData
  F_all_covers : Fun K (Str.ofString "all_covers") (Str.ofString "all_covers") s_all_covers f_all_covers d_all_covers
  g_all_covers : mg (Str.ofString "all_covers") = some (.ref f_all_covers)
  b_all_covers : Binds K d_all_covers ps_all_covers []
  f_fewest_layings : Addr
  d_fewest_layings : FuncData
  F_fewest_layings : Fun K (Str.ofString "fewest_layings") (Str.ofString "fewest_layings") s_fewest_layings f_fewest_layings d_fewest_layings
  g_fewest_layings : mg (Str.ofString "fewest_layings") = some (.ref f_fewest_layings)
  b_fewest_layings : Binds K d_fewest_layings ps_fewest_layings []
  f__law_tree_right : Addr
  d__law_tree_right : FuncData
  F__law_tree_right : Fun K (Str.ofString "_law_tree_right") (Str.ofString "_law_tree_right") s__law_tree_right f__law_tree_right d__law_tree_right
  g__law_tree_right : mg (Str.ofString "_law_tree_right") = some (.ref f__law_tree_right)
  b__law_tree_right : Binds K d__law_tree_right ps__law_tree_right []
  f_shortest_cover : Addr
  d_shortest_cover : FuncData
  F_shortest_cover : Fun K (Str.ofString "shortest_cover") (Str.ofString "shortest_cover") s_shortest_cover f_shortest_cover d_shortest_cover
  g_shortest_cover : mg (Str.ofString "shortest_cover") = some (.ref f_shortest_cover)
  b_shortest_cover : Binds K d_shortest_cover ps_shortest_cover []
  f__law_layings_right : Addr
  d__law_layings_right : FuncData
  F__law_layings_right : Fun K (Str.ofString "_law_layings_right") (Str.ofString "_law_layings_right") s__law_layings_right f__law_layings_right d__law_layings_right
  g__law_layings_right : mg (Str.ofString "_law_layings_right") = some (.ref f__law_layings_right)
  b__law_layings_right : Binds K d__law_layings_right ps__law_layings_right []
  f_is_bare : Addr
  d_is_bare : FuncData
  F_is_bare : Fun K (Str.ofString "is_bare") (Str.ofString "is_bare") s_is_bare f_is_bare d_is_bare
  g_is_bare : mg (Str.ofString "is_bare") = some (.ref f_is_bare)
  b_is_bare : Binds K d_is_bare ps_is_bare []
  f__law_covers_right : Addr
  d__law_covers_right : FuncData
  F__law_covers_right : Fun K (Str.ofString "_law_covers_right") (Str.ofString "_law_covers_right") s__law_covers_right f__law_covers_right d__law_covers_right
  g__law_covers_right : mg (Str.ofString "_law_covers_right") = some (.ref f__law_covers_right)
  b__law_covers_right : Binds K d__law_covers_right ps__law_covers_right []
  f_law : Addr
  d_law : FuncData
  F_law : Fun K (Str.ofString "law") (Str.ofString "law") s_law f_law d_law
  g_law : mg (Str.ofString "law") = some (.ref f_law)
  b_law : Binds K d_law ps_law []
  t_LETTERS : Tok
  g_LETTERS : mg (Str.ofString "LETTERS") = some (.str (Str.ofString "abcdefghijklmnopqrstuvwxyz") t_LETTERS)
  m_dict : mg (Str.ofString "dict") = none
  m_enumerate : mg (Str.ofString "enumerate") = none
  m_int : mg (Str.ofString "int") = none
  m_len : mg (Str.ofString "len") = none
  m_list : mg (Str.ofString "list") = none
  m_max : mg (Str.ofString "max") = none
  m_min : mg (Str.ofString "min") = none
  m_range : mg (Str.ofString "range") = none
  m_set : mg (Str.ofString "set") = none
  m_sorted : mg (Str.ofString "sorted") = none
  m_sum : mg (Str.ofString "sum") = none
  C_NoWord : Addr
  X_NoWord : XCls K mg (Str.ofString "NoWord") C_NoWord
  C_NoSign : Addr
  X_NoSign : XCls K mg (Str.ofString "NoSign") C_NoSign
  C_NoText : Addr
  X_NoText : XCls K mg (Str.ofString "NoText") C_NoText
  C_NoCover : Addr
  X_NoCover : XCls K mg (Str.ofString "NoCover") C_NoCover
section
variable {P : Program} {w : World} {K : PySem.W.Frag} {mg : Str → Option Value} {base : Heap}
theorem ok_need_word (T : Tp K mg) : FnOk P w K mg base (L2N.CX P w) 1 T.f_need_word T.d_need_word ps_need_word (spP K (cvK K) 1 F_need_word) :=
  fn_P N_need_word ps_need_word 1 1 (cf_need_word K mg) B_need_word rfl rfl T.F_need_word sc_need_word rfl (fun i h1 => by
    match i, h1 with
    | 0, _ => exact rfl
    | i + 1, h => exact absurd h (by simp)) (fun cdv A outer s H E hr tk pw =>
  (sss_one (ss_if (st_eq rfl hr.units (se_vS 0 (pv 0) rfl) (se_lst (c := .V) sa_nil)) (sss_one (ss_raise rfl rfl rfl tk T.X_NoWord)) sss_nil)))
theorem ok_need_signs (T : Tp K mg) : FnOk P w K mg base (L2N.CX P w) 1 T.f_need_signs T.d_need_signs ps_need_signs (spP K (cvK K) 1 F_need_signs) :=
  fn_P N_need_signs ps_need_signs 2 1 (cf_need_signs K mg) B_need_signs rfl rfl T.F_need_signs sc_need_signs rfl (fun i h1 => by
    match i, h1 with
    | 0, _ => exact rfl
    | i + 1, h => exact absurd h (by simp)) (fun cdv A outer s H E hr tk pw =>
  (sss_one (ss_if (st_ne rfl hr.units (se_lc (c := .S) (own := [(Str.ofString "sign", 1)]) rfl (own1 rfl) rfl sc_need_signs.nd (SI.w (si_list rfl (se_vS 0 (pv 0) rfl))) (blkOk_by (own := [(Str.ofString "sign", 1)]) (N := N_need_signs) (sc := (defScope s_need_signs)) (by decide +kernel)) (fun _ _ _ _ _ => (sgt_name (i := 1) (is := [1]) List.mem_cons_self rfl sc_need_signs.nd rfl (Or.inl rfl))) (fun _ _ _ _ _ => (sts_one (st_or2 (st_ne rfl hr.units (se_len rfl T.m_len (sa_cons (se_vS 1 (pv 1) rfl) sa_nil)) se_int) (st_notIn rfl (se_vS 1 (pv 1) rfl) (se_glob (v := (.str (Str.ofString "abcdefghijklmnopqrstuvwxyz"))) (pe_glob (by rfl) T.g_LETTERS ⟨_, rfl⟩) rfl))))) (fun _ _ _ _ _ => (se_vS 1 (pv 1) rfl))) (se_lst (c := .V) sa_nil)) (sss_one (ss_raise rfl rfl rfl tk T.X_NoSign)) sss_nil)))
theorem ok_need_text (T : Tp K mg) : FnOk P w K mg base (L2N.CX P w) 1 T.f_need_text T.d_need_text ps_need_text (spP K (cvK K) 1 F_need_text) :=
  fn_P N_need_text ps_need_text 1 1 (cf_need_text K mg) B_need_text rfl rfl T.F_need_text sc_need_text rfl (fun i h1 => by
    match i, h1 with
    | 0, _ => exact rfl
    | i + 1, h => exact absurd h (by simp)) (fun cdv A outer s H E hr tk pw =>
  (sss_one (ss_if (st_eq rfl hr.units (se_vS 0 (pv 0) rfl) (se_lst (c := .V) sa_nil)) (sss_one (ss_raise rfl rfl rfl tk T.X_NoText)) sss_nil)))
theorem ok_greatest_borders (T : Tp K mg) : FnOk P w K mg base (L2N.CX P w) 1 T.f_greatest_borders T.d_greatest_borders ps_greatest_borders (spP K (cvK K) 1 F_greatest_borders) :=
  fn_P N_greatest_borders ps_greatest_borders 5 1 (cf_greatest_borders K mg) B_greatest_borders rfl rfl T.F_greatest_borders sc_greatest_borders rfl (fun i h1 => by
    match i, h1 with
    | 0, _ => exact rfl
    | i + 1, h => exact absurd h (by simp)) (fun cdv A outer s H E hr tk pw =>
  (sss_cons (ss_setM (sg_of (i := 1) (se_lst (c := .V) sa_nil) sc_greatest_borders.nd rfl (Or.inl rfl)) rfl)
  (sss_cons (ss_setS (sg_of (i := 2) (SE.le se_int .vs) sc_greatest_borders.nd rfl (Or.inl rfl)) rfl)
  (sss_cons (ss_for pw rfl (si_enum rfl (by rfl) T.m_enumerate (sa_cons (se_vS 0 (pv 0) rfl) sa_nil)) (sgt_tup (is := [3, 4]) (js := [3, 4]) rfl rfl (sgts_cons (i := 3) (by decide) rfl sc_greatest_borders.nd rfl (Or.inl rfl) (sgts_cons (i := 4) (by decide) rfl sc_greatest_borders.nd rfl (Or.inl rfl) sgts_nil)) rfl) (sss_cons (ss_if (st_gt (se_vS 3 (pv 3) rfl) se_int) (sss_cons (ss_while WFUEL pw (st_and2 (st_gt (se_vS 2 (pv 2) rfl) se_int) (st_ne rfl hr.units (se_ix rfl (se_vS 0 (pv 0) rfl) (se_vS 2 (pv 2) rfl) (fun _ _ => rfl)) (se_vS 4 (pv 4) rfl))) (sss_one (ss_setS (sg_of (i := 2) (SE.le (SE.scal (se_ix rfl (se_vM 1 (pv 1) rfl) (SE.le (se_sub (se_vS 2 (pv 2) rfl) se_int) .vl) (fun _ _ => rfl))) .vs) sc_greatest_borders.nd rfl (Or.inl rfl)) rfl)))
  (sss_one (ss_iadd (i := 2) (Or.inl rfl) (se_int1 T.m_int (sa_cons (SE.le (se_eq rfl hr.units (se_ix rfl (se_vS 0 (pv 0) rfl) (se_vS 2 (pv 2) rfl) (fun _ _ => rfl)) (se_vS 4 (pv 4) rfl)) .vb) sa_nil)) sc_greatest_borders.nd rfl (Or.inl rfl)))) sss_nil)
  (sss_one (ss_app (i := 1) rfl (pv 1) rfl (SE.le (SE.scal (se_vS 2 (pv 2) rfl)) .vn)))))
  (sss_one (ss_ret (se_vM 1 (pv 1) rfl)))))))
theorem ok_laid_at (T : Tp K mg) : FnOk P w K mg base (L2N.CX P w) 1 T.f_laid_at T.d_laid_at ps_laid_at (spP K (cvK K) 2 F_laid_at) :=
  fn_P N_laid_at ps_laid_at 4 2 (cf_laid_at K mg) B_laid_at rfl rfl T.F_laid_at sc_laid_at rfl (fun i h1 => by
    match i, h1 with
    | 0, _ => exact rfl
    | 1, _ => exact rfl
    | i + 2, h => exact absurd h (by simp)) (fun cdv A outer s H E hr tk pw =>
  (sss_cons (ss_setS (sg_of (i := 2) (SE.le (se_len rfl T.m_len (sa_cons (se_vS 1 (pv 1) rfl) sa_nil)) .vs) sc_laid_at.nd rfl (Or.inr rfl)) rfl)
  (sss_one (ss_ret (SE.le (SE.flat (se_lc (c := .S) (own := [(Str.ofString "place", 3)]) rfl (own1 rfl) rfl sc_laid_at.nd (SI.w (si_range1 (by rfl) T.m_range (sa_cons (SE.le (se_add (se_sub (se_len rfl T.m_len (sa_cons (se_vS 0 (pv 0) rfl) sa_nil)) (se_vS 2 (pv 2) rfl)) se_int) .vb) sa_nil))) (blkOk_by (own := [(Str.ofString "place", 3)]) (N := N_laid_at) (sc := (defScope s_laid_at)) (by decide +kernel)) (fun _ _ _ _ _ => (sgt_name (i := 3) (is := [3]) List.mem_cons_self rfl sc_laid_at.nd rfl (Or.inl rfl))) (fun _ _ _ _ _ => (sts_one (st_eq rfl hr.units (se_sl rfl (se_vS 0 (pv 0) rfl) (so_some (se_vS 3 (pv 3) rfl)) (so_some (se_add (se_vS 3 (pv 3) rfl) (se_vS 2 (pv 2) rfl)))) (se_vS 1 (pv 1) rfl)))) (fun _ _ _ _ _ => (se_vS 3 (pv 3) rfl)))) .vl)))))
theorem ok_first_bare (T : Tp K mg) : FnOk P w K mg base (L2N.CX P w) 1 T.f_first_bare T.d_first_bare ps_first_bare (spP K (cvK K) 3 F_first_bare) :=
  fn_P N_first_bare ps_first_bare 5 3 (cf_first_bare K mg) B_first_bare rfl rfl T.F_first_bare sc_first_bare rfl (fun i h1 => by
    match i, h1 with
    | 0, _ => exact rfl
    | 1, _ => exact rfl
    | 2, _ => exact rfl
    | i + 3, h => exact absurd h (by simp)) (fun cdv A outer s H E hr tk pw =>
  (sss_cons (ss_setN (sg_of (i := 3) (SE.le se_int .vn) sc_first_bare.nd rfl (Or.inl rfl)) rfl)
  (sss_cons (ss_for pw rfl (si_list rfl (se_vS 1 (pv 1) rfl)) (sgt_name (i := 4) (is := [4]) List.mem_cons_self rfl sc_first_bare.nd rfl (Or.inl rfl)) (sss_one (ss_if (st_le (se_vS 4 (pv 4) rfl) (se_vN 3 (pv 3) rfl)) (sss_one (ss_setN (sg_of (i := 3) (SE.le (se_max2 rfl T.m_max (sa_cons (SE.le (se_vN 3 (pv 3) rfl) .nb) (sa_cons (SE.le (se_add (se_vS 4 (pv 4) rfl) (se_vS 0 (pv 0) rfl)) .sb) sa_nil))) .vn) sc_first_bare.nd rfl (Or.inl rfl)) rfl)) sss_nil)))
  (sss_cons (ss_if (st_lt (se_vN 3 (pv 3) rfl) (se_vS 2 (pv 2) rfl)) (sss_one (ss_ret (SE.le (se_vN 3 (pv 3) rfl) .nl))) sss_nil)
  (sss_one (ss_ret (SE.le se_non .vl)))))))
theorem ok__law_hand (T : Tp K mg) : FnOk P w K mg base (L2N.CX P w) 1 T.f__law_hand T.d__law_hand ps__law_hand (spP K (cvK K) 1 F__law_hand) :=
  fn_P N__law_hand ps__law_hand 1 1 (cf__law_hand K mg) B__law_hand rfl rfl T.F__law_hand sc__law_hand rfl (fun i h1 => by
    match i, h1 with
    | 0, _ => exact rfl
    | i + 1, h => exact absurd h (by simp)) (fun cdv A outer s H E hr tk pw =>
  (sss_one (ss_ret (SE.le (se_lst (sa_cons (se_max2 rfl T.m_max (sa_cons (SE.le se_int .vb) (sa_cons (SE.le (se_sub (se_vS 0 (pv 0) rfl) (se_pow se_int se_int)) .vb) sa_nil))) (sa_cons (se_mul (se_add (se_mod (se_vS 0 (pv 0) rfl) se_int) se_int) (se_int1 T.m_int (sa_cons (SE.le (se_ne rfl hr.units (se_vS 0 (pv 0) rfl) (se_pow se_int se_int)) .vb) sa_nil))) sa_nil))) .vl))))
theorem ok__law_take (T : Tp K mg) : FnOk P w K mg base (L2N.CX P w) 1 T.f__law_take T.d__law_take ps__law_take (spW K (cvK K) 2 F__law_take) :=
  fn_W N__law_take ps__law_take 3 2 (cf__law_take K mg) B__law_take rfl rfl T.F__law_take sc__law_take rfl rfl (fun i h1 h2 => by
    match i, h1, h2 with
    | 1, _, _ => exact rfl
    | i + 2, _, h => exact absurd h (by simp)) (fun cdv A outer s H E hr tk pw =>
  (sss_cons (ss_if (st_gt (se_ixW rfl (pv 0) rfl se_int (fun _ _ => rfl)) se_int) (sss_cons (ss_setN (sg_of (i := 2) (SE.le (se_mod (se_ixW rfl (pv 0) rfl se_int (fun _ _ => rfl)) (se_vS 1 (pv 1) rfl)) .vn) sc__law_take.nd rfl (Or.inl rfl)) rfl)
  (sss_cons (ss_putW (i := 0) (pv 0) rfl (SE.le (se_fdiv (se_ixW rfl (pv 0) rfl se_int (fun _ _ => rfl)) (se_vS 1 (pv 1) rfl)) .vb) (SE.le se_int .vb))
  (sss_one (ss_ret (SE.le (se_vN 2 (pv 2) rfl) .nl))))) sss_nil)
  (sss_cons (ss_putW (i := 0) (pv 0) rfl (SE.le (se_mod (se_mul (se_ixW rfl (pv 0) rfl se_int (fun _ _ => rfl)) se_int) se_int) .vb) (SE.le se_int .vb))
  (sss_one (ss_ret (SE.le (se_mod (se_fdiv (se_pow (se_add (se_ixW rfl (pv 0) rfl se_int (fun _ _ => rfl)) se_int) se_int) se_int) (se_vS 1 (pv 1) rfl)) .vl))))))
theorem ok__law_ends (T : Tp K mg) : FnOk P w K mg base (L2N.CX P w) 1 T.f__law_ends T.d__law_ends ps__law_ends (spP K (cvK K) 1 F__law_ends) :=
  fn_P N__law_ends ps__law_ends 2 1 (cf__law_ends K mg) B__law_ends rfl rfl T.F__law_ends sc__law_ends rfl (fun i h1 => by
    match i, h1 with
    | 0, _ => exact rfl
    | i + 1, h => exact absurd h (by simp)) (fun cdv A outer s H E hr tk pw =>
  (sss_one (ss_ret (SE.le (SE.flat (se_lc (c := .S) (own := [(Str.ofString "k", 1)]) rfl (own1 rfl) rfl sc__law_ends.nd (SI.w (si_range1 (by rfl) T.m_range (sa_cons (SE.le (se_len rfl T.m_len (sa_cons (se_vS 0 (pv 0) rfl) sa_nil)) .vb) sa_nil))) (blkOk_by (own := [(Str.ofString "k", 1)]) (N := N__law_ends) (sc := (defScope s__law_ends)) (by decide +kernel)) (fun _ _ _ _ _ => (sgt_name (i := 1) (is := [1]) List.mem_cons_self rfl sc__law_ends.nd rfl (Or.inl rfl))) (fun _ _ _ _ _ => (sts_one (st_eq rfl hr.units (se_sl rfl (se_vS 0 (pv 0) rfl) so_none (so_some (se_vS 1 (pv 1) rfl))) (se_sl rfl (se_vS 0 (pv 0) rfl) (so_some (se_sub (se_len rfl T.m_len (sa_cons (se_vS 0 (pv 0) rfl) sa_nil)) (se_vS 1 (pv 1) rfl))) so_none)))) (fun _ _ _ _ _ => (se_vS 1 (pv 1) rfl)))) .vl))))
theorem ok_borders (T : Tp K mg) : FnOk P w K mg base (L2N.CX P w) 2 T.f_borders T.d_borders ps_borders (spP K (cvK K) 1 F_borders) :=
  fn_P N_borders ps_borders 4 1 (cf_borders K mg) B_borders rfl rfl T.F_borders sc_borders rfl (fun i h1 => by
    match i, h1 with
    | 0, _ => exact rfl
    | i + 1, h => exact absurd h (by simp)) (fun cdv A outer s H E hr tk pw =>
  (sss_cons (ss_expr (se_call rfl tk (ok_need_signs T) hr (by rfl) T.g_need_signs T.F_need_signs.kp T.b_need_signs (sa_cons (SE.le (se_vS 0 (pv 0) rfl) .sb) sa_nil) (fun _ _ _ => aLen_cons (fun _ _ _ => aLen_nil))))
  (sss_cons (ss_setM (sg_of (i := 1) (se_lst (c := .V) sa_nil) sc_borders.nd rfl (Or.inl rfl)) rfl)
  (sss_cons (ss_if (st_ne rfl hr.units (se_vS 0 (pv 0) rfl) (se_lst (c := .V) sa_nil)) (sss_cons (ss_setS (sg_of (i := 2) (SE.le (se_call rfl tk (ok_greatest_borders T) hr (by rfl) T.g_greatest_borders T.F_greatest_borders.kp T.b_greatest_borders (sa_cons (SE.le (se_vS 0 (pv 0) rfl) .sb) sa_nil) (fun _ _ _ => aLen_cons (fun _ _ _ => aLen_nil))) .vs) sc_borders.nd rfl (Or.inl rfl)) rfl)
  (sss_cons (ss_setS (sg_of (i := 3) (se_ix rfl (se_vS 2 (pv 2) rfl) (SE.le (se_neg se_int) .vs) (fun _ _ => rfl)) sc_borders.nd rfl (Or.inl rfl)) rfl)
  (sss_cons (ss_while WFUEL pw (st_gt (se_vS 3 (pv 3) rfl) se_int) (sss_cons (ss_app (i := 1) rfl (pv 1) rfl (SE.le (SE.scal (se_vS 3 (pv 3) rfl)) .vn))
  (sss_one (ss_setS (sg_of (i := 3) (se_ix rfl (se_vS 2 (pv 2) rfl) (SE.le (se_sub (se_vS 3 (pv 3) rfl) se_int) .vs) (fun _ _ => rfl)) sc_borders.nd rfl (Or.inl rfl)) rfl))))
  (sss_one (ss_app (i := 1) rfl (pv 1) rfl (SE.le se_int .vn)))))) sss_nil)
  (sss_one (ss_ret (se_rev rfl (se_vM 1 (pv 1) rfl))))))))
theorem ok_lies_at (T : Tp K mg) : FnOk P w K mg base (L2N.CX P w) 2 T.f_lies_at T.d_lies_at ps_lies_at (spP K (cvK K) 2 F_lies_at) :=
  fn_P N_lies_at ps_lies_at 2 2 (cf_lies_at K mg) B_lies_at rfl rfl T.F_lies_at sc_lies_at rfl (fun i h1 => by
    match i, h1 with
    | 0, _ => exact rfl
    | 1, _ => exact rfl
    | i + 2, h => exact absurd h (by simp)) (fun cdv A outer s H E hr tk pw =>
  (sss_cons (ss_expr (se_call rfl tk (ok_need_word T) hr (by rfl) T.g_need_word T.F_need_word.kp T.b_need_word (sa_cons (SE.le (se_vS 1 (pv 1) rfl) .sb) sa_nil) (fun _ _ _ => aLen_cons (fun _ _ _ => aLen_nil))))
  (sss_cons (ss_expr (se_call rfl tk (ok_need_signs T) hr (by rfl) T.g_need_signs T.F_need_signs.kp T.b_need_signs (sa_cons (SE.le (se_add (se_vS 0 (pv 0) rfl) (se_vS 1 (pv 1) rfl)) .sb) sa_nil) (fun _ _ _ => aLen_cons (fun _ _ _ => aLen_nil))))
  (sss_one (ss_ret (SE.le (se_call rfl tk (ok_laid_at T) hr (by rfl) T.g_laid_at T.F_laid_at.kp T.b_laid_at (sa_cons (SE.le (se_vS 0 (pv 0) rfl) .sb) (sa_cons (SE.le (se_vS 1 (pv 1) rfl) .sb) sa_nil)) (fun _ _ _ => aLen_cons (fun _ _ _ => aLen_cons (fun _ _ _ => aLen_nil)))) .vl))))))
theorem ok_need_both (T : Tp K mg) : FnOk P w K mg base (L2N.CX P w) 2 T.f_need_both T.d_need_both ps_need_both (spP K (cvK K) 2 F_need_both) :=
  fn_P N_need_both ps_need_both 2 2 (cf_need_both K mg) B_need_both rfl rfl T.F_need_both sc_need_both rfl (fun i h1 => by
    match i, h1 with
    | 0, _ => exact rfl
    | 1, _ => exact rfl
    | i + 2, h => exact absurd h (by simp)) (fun cdv A outer s H E hr tk pw =>
  (sss_cons (ss_expr (se_call rfl tk (ok_need_word T) hr (by rfl) T.g_need_word T.F_need_word.kp T.b_need_word (sa_cons (SE.le (se_vS 1 (pv 1) rfl) .sb) sa_nil) (fun _ _ _ => aLen_cons (fun _ _ _ => aLen_nil))))
  (sss_cons (ss_expr (se_call rfl tk (ok_need_signs T) hr (by rfl) T.g_need_signs T.F_need_signs.kp T.b_need_signs (sa_cons (SE.le (se_add (se_vS 0 (pv 0) rfl) (se_vS 1 (pv 1) rfl)) .sb) sa_nil) (fun _ _ _ => aLen_cons (fun _ _ _ => aLen_nil))))
  (sss_one (ss_expr (se_call rfl tk (ok_need_text T) hr (by rfl) T.g_need_text T.F_need_text.kp T.b_need_text (sa_cons (SE.le (se_vS 0 (pv 0) rfl) .sb) sa_nil) (fun _ _ _ => aLen_cons (fun _ _ _ => aLen_nil))))))))
theorem ok_greatest_covers (T : Tp K mg) : FnOk P w K mg base (L2N.CX P w) 2 T.f_greatest_covers T.d_greatest_covers ps_greatest_covers (spP K (cvK K) 1 F_greatest_covers) :=
  fn_P N_greatest_covers ps_greatest_covers 7 1 (cf_greatest_covers K mg) B_greatest_covers rfl rfl T.F_greatest_covers sc_greatest_covers rfl (fun i h1 => by
    match i, h1 with
    | 0, _ => exact rfl
    | i + 1, h => exact absurd h (by simp)) (fun cdv A outer s H E hr tk pw =>
  (sss_cons (ss_expr (se_call rfl tk (ok_need_signs T) hr (by rfl) T.g_need_signs T.F_need_signs.kp T.b_need_signs (sa_cons (SE.le (se_vS 0 (pv 0) rfl) .sb) sa_nil) (fun _ _ _ => aLen_cons (fun _ _ _ => aLen_nil))))
  (sss_cons (ss_setS (sg_of (i := 1) (SE.le (se_call rfl tk (ok_greatest_borders T) hr (by rfl) T.g_greatest_borders T.F_greatest_borders.kp T.b_greatest_borders (sa_cons (SE.le (se_vS 0 (pv 0) rfl) .sb) sa_nil) (fun _ _ _ => aLen_cons (fun _ _ _ => aLen_nil))) .vs) sc_greatest_covers.nd rfl (Or.inl rfl)) rfl)
  (sss_cons (ss_setM (sg_of (i := 2) (se_lrg1 rfl T.m_list T.m_range (se_add (se_len rfl T.m_len (sa_cons (se_vS 0 (pv 0) rfl) sa_nil)) se_int)) sc_greatest_covers.nd rfl (Or.inl rfl)) rfl)
  (sss_cons (ss_setM (sg_of (i := 3) (se_lst (c := .V) sa_nil) sc_greatest_covers.nd rfl (Or.inl rfl)) rfl)
  (sss_cons (ss_for pw rfl (si_range2 (by rfl) T.m_range (sa_cons (SE.le se_int .vb) (sa_cons (SE.le (se_add (se_len rfl T.m_len (sa_cons (se_vS 0 (pv 0) rfl) sa_nil)) se_int) .vb) sa_nil))) (sgt_name (i := 4) (is := [4]) List.mem_cons_self rfl sc_greatest_covers.nd rfl (Or.inl rfl)) (sss_cons (ss_setS (sg_of (i := 5) (SE.le se_int .vs) sc_greatest_covers.nd rfl (Or.inl rfl)) rfl)
  (sss_cons (ss_setS (sg_of (i := 6) (se_ix rfl (se_vS 1 (pv 1) rfl) (SE.le (se_sub (se_vS 4 (pv 4) rfl) se_int) .vs) (fun _ _ => rfl)) sc_greatest_covers.nd rfl (Or.inl rfl)) rfl)
  (sss_cons (ss_while WFUEL pw (st_gt (se_vS 6 (pv 6) rfl) se_int) (sss_cons (ss_if (st_ge (se_ix rfl (se_vM 2 (pv 2) rfl) (SE.le (SE.scal (se_vS 6 (pv 6) rfl)) .vl) (fun _ _ => rfl)) (se_sub (se_vS 4 (pv 4) rfl) (se_vS 6 (pv 6) rfl))) (sss_cons (ss_putM (i := 2) (pv 2) rfl (SE.le (SE.scal (se_vS 4 (pv 4) rfl)) .vn) (se_vS 6 (pv 6) rfl))
  (sss_one (ss_setS (sg_of (i := 5) (SE.le (se_max2 rfl T.m_max (sa_cons (SE.le (se_vS 5 (pv 5) rfl) .sb) (sa_cons (SE.le (se_vS 6 (pv 6) rfl) .sb) sa_nil))) .vs) sc_greatest_covers.nd rfl (Or.inl rfl)) rfl))) sss_nil)
  (sss_one (ss_setS (sg_of (i := 6) (se_ix rfl (se_vS 1 (pv 1) rfl) (SE.le (se_sub (se_vS 6 (pv 6) rfl) se_int) .vs) (fun _ _ => rfl)) sc_greatest_covers.nd rfl (Or.inl rfl)) rfl))))
  (sss_one (ss_app (i := 3) rfl (pv 3) rfl (SE.le (SE.scal (se_vS 5 (pv 5) rfl)) .vn)))))))
  (sss_one (ss_ret (se_vM 3 (pv 3) rfl)))))))))
theorem ok__law_letters (T : Tp K mg) : FnOk P w K mg base (L2N.CX P w) 2 T.f__law_letters T.d__law_letters ps__law_letters (spW K (cvK K) 1 F__law_letters) :=
  fn_W N__law_letters ps__law_letters 5 1 (cf__law_letters K mg) B__law_letters rfl rfl T.F__law_letters sc__law_letters rfl rfl (fun i h1 h2 => by
    match i, h1, h2 with
    | i + 1, _, h => exact absurd h (by simp)) (fun cdv A outer s H E hr tk pw =>
  (sss_cons (ss_setS (sg_of (i := 1) (SE.le se_str .vs) sc__law_letters.nd rfl (Or.inl rfl)) rfl)
  (sss_cons (ss_setN (sg_of (i := 2) (SE.le se_str .vn) sc__law_letters.nd rfl (Or.inl rfl)) rfl)
  (sss_cons (ss_for pw rfl (si_range1 (by rfl) T.m_range (sa_cons (SE.le (se_ix rfl (se_lst (sa_cons se_int (sa_cons se_int (sa_cons se_int (sa_cons se_int sa_nil))))) (se_callW rfl tk (ok__law_take T) hr (by rfl) T.g__law_take T.F__law_take.kp T.b__law_take rfl (pv 0) (sa_cons (SE.le se_int .vb) sa_nil) (aLen1 (fun _ _ _ => aLen_cons (fun _ _ _ => aLen_nil)))) (fun _ _ => rfl)) .vb) sa_nil)) (sgt_name (i := 3) (is := [3]) List.mem_cons_self rfl sc__law_letters.nd rfl (Or.inl rfl)) (sss_cons (ss_setS (sg_of (i := 4) (SE.le (se_callW rfl tk (ok__law_take T) hr (by rfl) T.g__law_take T.F__law_take.kp T.b__law_take rfl (pv 0) (sa_cons (SE.le (se_len rfl T.m_len (sa_cons (se_vS 1 (pv 1) rfl) sa_nil)) .vb) sa_nil) (aLen1 (fun _ _ _ => aLen_cons (fun _ _ _ => aLen_nil)))) .vs) sc__law_letters.nd rfl (Or.inl rfl)) rfl)
  (sss_cons (ss_setN (sg_of (i := 2) (SE.le (SE.flat (se_add (SE.le (se_vN 2 (pv 2) rfl) .ns) (se_ix rfl (se_vS 1 (pv 1) rfl) (se_vS 4 (pv 4) rfl) (fun _ _ => rfl)))) .vn) sc__law_letters.nd rfl (Or.inl rfl)) rfl)
  (sss_one (ss_setS (sg_of (i := 1) (se_add (se_sl rfl (se_vS 1 (pv 1) rfl) so_none (so_some (se_vS 4 (pv 4) rfl))) (se_sl rfl (se_vS 1 (pv 1) rfl) (so_some (se_add (se_vS 4 (pv 4) rfl) (SE.le se_int .vs))) so_none)) sc__law_letters.nd rfl (Or.inl rfl)) rfl)))))
  (sss_one (ss_ret (SE.le (se_vN 2 (pv 2) rfl) .nl)))))))
theorem ok__law_signs (T : Tp K mg) : FnOk P w K mg base (L2N.CX P w) 2 T.f__law_signs T.d__law_signs ps__law_signs (spW K (cvK K) 3 F__law_signs) :=
  fn_W N__law_signs ps__law_signs 4 3 (cf__law_signs K mg) B__law_signs rfl rfl T.F__law_signs sc__law_signs rfl rfl (fun i h1 h2 => by
    match i, h1, h2 with
    | 1, _, _ => exact rfl
    | 2, _, _ => exact rfl
    | i + 3, _, h => exact absurd h (by simp)) (fun cdv A outer s H E hr tk pw =>
  (sss_one (ss_ret (SE.le (SE.flat (se_lc (c := .S) (own := [(Str.ofString "k", 3)]) rfl (own1 rfl) rfl sc__law_signs.nd (SI.w (si_range1 (by rfl) T.m_range (sa_cons (SE.le (se_vS 2 (pv 2) rfl) .sb) sa_nil))) (blkOk_by (own := [(Str.ofString "k", 3)]) (N := N__law_signs) (sc := (defScope s__law_signs)) (by decide +kernel)) (fun _ _ _ _ _ => (sgt_name (i := 3) (is := [3]) List.mem_cons_self rfl sc__law_signs.nd rfl (Or.inl rfl))) (fun _ _ _ _ _ => sts_nil) (fun _ _ _ _ _ => (se_ix rfl (se_vS 1 (pv 1) rfl) (SE.le (se_callW rfl takes0N (ok__law_take T) hr (by rfl) T.g__law_take T.F__law_take.kp T.b__law_take rfl (pv 0) (sa_cons (SE.le (se_len rfl T.m_len (sa_cons (se_vS 1 (pv 1) rfl) sa_nil)) .vb) sa_nil) (aLen1 (fun _ _ _ => aLen_cons (fun _ _ _ => aLen_nil)))) .vs) (fun _ _ => rfl))))) .vl))))
theorem ok__law_laid (T : Tp K mg) : FnOk P w K mg base (L2N.CX P w) 2 T.f__law_laid T.d__law_laid ps__law_laid (spW K (cvK K) 3 F__law_laid) :=
  fn_W N__law_laid ps__law_laid 7 3 (cf__law_laid K mg) B__law_laid rfl rfl T.F__law_laid sc__law_laid rfl rfl (fun i h1 h2 => by
    match i, h1, h2 with
    | 1, _, _ => exact rfl
    | 2, _, _ => exact rfl
    | i + 3, _, h => exact absurd h (by simp)) (fun cdv A outer s H E hr tk pw =>
  (sss_cons (ss_setN (sg_of (i := 3) (SE.le (SE.flat (se_list1 rfl T.m_list (sa_cons (se_vS 1 (pv 1) rfl) sa_nil))) .vn) sc__law_laid.nd rfl (Or.inl rfl)) rfl)
  (sss_cons (ss_setS (sg_of (i := 4) (SE.le (se_call rfl tk (ok__law_ends T) hr (by rfl) T.g__law_ends T.F__law_ends.kp T.b__law_ends (sa_cons (SE.le (se_vS 1 (pv 1) rfl) .sb) sa_nil) (fun _ _ _ => aLen_cons (fun _ _ _ => aLen_nil))) .vs) sc__law_laid.nd rfl (Or.inl rfl)) rfl)
  (sss_cons (ss_for pw rfl (si_range1 (by rfl) T.m_range (sa_cons (SE.le (se_add se_int (se_callW rfl tk (ok__law_take T) hr (by rfl) T.g__law_take T.F__law_take.kp T.b__law_take rfl (pv 0) (sa_cons (SE.le se_int .vb) sa_nil) (aLen1 (fun _ _ _ => aLen_cons (fun _ _ _ => aLen_nil))))) .vb) sa_nil)) (sgt_name (i := 5) (is := [5]) List.mem_cons_self rfl sc__law_laid.nd rfl (Or.inl rfl)) (sss_cons (ss_setS (sg_of (i := 6) (se_ix rfl (se_vS 4 (pv 4) rfl) (SE.le (se_callW rfl tk (ok__law_take T) hr (by rfl) T.g__law_take T.F__law_take.kp T.b__law_take rfl (pv 0) (sa_cons (SE.le (se_len rfl T.m_len (sa_cons (se_vS 4 (pv 4) rfl) sa_nil)) .vb) sa_nil) (aLen1 (fun _ _ _ => aLen_cons (fun _ _ _ => aLen_nil)))) .vs) (fun _ _ => rfl)) sc__law_laid.nd rfl (Or.inl rfl)) rfl)
  (sss_one (ss_if (st_le (se_sub (se_add (se_len rfl T.m_len (sa_cons (se_vN 3 (pv 3) rfl) sa_nil)) (se_len rfl T.m_len (sa_cons (se_vS 1 (pv 1) rfl) sa_nil))) (se_vS 6 (pv 6) rfl)) (se_vS 2 (pv 2) rfl)) (sss_one (ss_setN (sg_of (i := 3) (SE.le (SE.flat (se_add (SE.le (se_vN 3 (pv 3) rfl) .ns) (se_sl rfl (se_vS 1 (pv 1) rfl) (so_some (se_vS 6 (pv 6) rfl)) so_none))) .vn) sc__law_laid.nd rfl (Or.inl rfl)) rfl)) sss_nil))))
  (sss_one (ss_ret (SE.le (se_vN 3 (pv 3) rfl) .nl)))))))
theorem ok__law_renamed (T : Tp K mg) : FnOk P w K mg base (L2N.CX P w) 2 T.f__law_renamed T.d__law_renamed ps__law_renamed (spW K (cvK K) 1 F__law_renamed_v3) :=
  fn_W N__law_renamed ps__law_renamed 3 1 (cf__law_renamed K mg) B__law_renamed_v3 rfl rfl T.F__law_renamed sc__law_renamed rfl rfl (fun i h1 h2 => by
    match i, h1, h2 with
    | i + 1, _, h => exact absurd h (by simp)) (fun cdv A outer s H E hr tk pw =>
  (sss_cons (ss_setW (sg_of (i := 1) (se_list1 rfl T.m_list (sa_cons se_str sa_nil)) sc__law_renamed.nd rfl (Or.inr rfl)) rfl (by decide))
  (sss_one (ss_ret (SE.le (se_dictP rfl rfl T.m_dict (sa_cons (se_lc (c := .V) (own := [(Str.ofString "sign", 2)]) rfl (own1 rfl) rfl sc__law_renamed.nd (SI.w (si_str se_str)) (blkOk_by (own := [(Str.ofString "sign", 2)]) (N := N__law_renamed) (sc := (defScope s__law_renamed)) (by decide +kernel)) (fun _ _ _ _ _ => (sgt_name (i := 2) (is := [2]) List.mem_cons_self rfl sc__law_renamed.nd rfl (Or.inl rfl))) (fun _ _ _ _ _ => sts_nil) (fun _ _ _ _ _ => (se_tup (sa_cons (SE.scal (se_vS 2 (pv 2) rfl)) (sa_cons (se_popW rfl (pv 1) rfl (se_callW rfl takes0N (ok__law_take T) hr (by rfl) T.g__law_take T.F__law_take.kp T.b__law_take rfl (pv 0) (sa_cons (SE.le (se_lenW rfl T.m_len (pv 1) rfl) .vb) sa_nil) (aLen1 (fun _ _ _ => aLen_cons (fun _ _ _ => aLen_nil))))) sa_nil))))) sa_nil)) .vl)))))
theorem ok_covered (T : Tp K mg) : FnOk P w K mg base (L2N.CX P w) 3 T.f_covered T.d_covered ps_covered (spP K (cvK K) 2 F_covered) :=
  fn_P N_covered ps_covered 4 2 (cf_covered K mg) B_covered rfl rfl T.F_covered sc_covered rfl (fun i h1 => by
    match i, h1 with
    | 0, _ => exact rfl
    | 1, _ => exact rfl
    | i + 2, h => exact absurd h (by simp)) (fun cdv A outer s H E hr tk pw =>
  (sss_cons (ss_expr (se_call rfl tk (ok_need_both T) hr (by rfl) T.g_need_both T.F_need_both.kp T.b_need_both (sa_cons (SE.le (se_vS 0 (pv 0) rfl) .sb) (sa_cons (SE.le (se_vS 1 (pv 1) rfl) .sb) sa_nil)) (fun _ _ _ => aLen_cons (fun _ _ _ => aLen_cons (fun _ _ _ => aLen_nil)))))
  (sss_cons (ss_setN (sg_of (i := 2) (SE.le (se_call rfl tk (ok_lies_at T) hr (by rfl) T.g_lies_at T.F_lies_at.kp T.b_lies_at (sa_cons (SE.le (se_vS 0 (pv 0) rfl) .sb) (sa_cons (SE.le (se_vS 1 (pv 1) rfl) .sb) sa_nil)) (fun _ _ _ => aLen_cons (fun _ _ _ => aLen_cons (fun _ _ _ => aLen_nil)))) .vn) sc_covered.nd rfl (Or.inl rfl)) rfl)
  (sss_cons (ss_setN (sg_of (i := 3) (SE.le (se_call rfl tk (ok_first_bare T) (hr.mono (by decide : 1 ≤ 2)) (by rfl) T.g_first_bare T.F_first_bare.kp T.b_first_bare (sa_cons (SE.le (se_len rfl T.m_len (sa_cons (se_vS 1 (pv 1) rfl) sa_nil)) .vb) (sa_cons (SE.le (se_vN 2 (pv 2) rfl) .nb) (sa_cons (SE.le (se_len rfl T.m_len (sa_cons (se_vS 0 (pv 0) rfl) sa_nil)) .vb) sa_nil))) (fun _ _ _ => aLen_cons (fun _ _ _ => aLen_cons (fun _ _ _ => aLen_cons (fun _ _ _ => aLen_nil))))) .vn) sc_covered.nd rfl (Or.inl rfl)) rfl)
  (sss_cons (ss_if (st_isN (se_vN 3 (pv 3) rfl) se_non) (sss_one (ss_ret (SE.le (se_tup (sa_cons (SE.le se_str .vn) (sa_cons (se_vN 2 (pv 2) rfl) sa_nil))) .nl))) sss_nil)
  (sss_one (ss_ret (SE.le (se_tup (sa_cons (SE.le se_str .vn) (sa_cons (se_vN 3 (pv 3) rfl) sa_nil))) .nl))))))))
theorem ok_is_laying (T : Tp K mg) : FnOk P w K mg base (L2N.CX P w) 3 T.f_is_laying T.d_is_laying ps_is_laying (spP K (cvK K) 3 F_is_laying) :=
  fn_P N_is_laying ps_is_laying 5 3 (cf_is_laying K mg) B_is_laying rfl rfl T.F_is_laying sc_is_laying rfl (fun i h1 => by
    match i, h1 with
    | 0, _ => exact rfl
    | 1, _ => exact rfl
    | 2, _ => exact rfl
    | i + 3, h => exact absurd h (by simp)) (fun cdv A outer s H E hr tk pw =>
  (sss_cons (ss_expr (se_call rfl tk (ok_need_both T) hr (by rfl) T.g_need_both T.F_need_both.kp T.b_need_both (sa_cons (SE.le (se_vS 0 (pv 0) rfl) .sb) (sa_cons (SE.le (se_vS 1 (pv 1) rfl) .sb) sa_nil)) (fun _ _ _ => aLen_cons (fun _ _ _ => aLen_cons (fun _ _ _ => aLen_nil)))))
  (sss_cons (ss_if (st_ne rfl hr.units (se_vS 2 (pv 2) rfl) (se_sortSet rfl rfl T.m_sorted T.m_set (sa_cons (se_vS 2 (pv 2) rfl) sa_nil))) (sss_one (ss_ret (SE.le se_bl .vl))) sss_nil)
  (sss_cons (ss_setS (sg_of (i := 3) (SE.le (se_call rfl tk (ok_lies_at T) hr (by rfl) T.g_lies_at T.F_lies_at.kp T.b_lies_at (sa_cons (SE.le (se_vS 0 (pv 0) rfl) .sb) (sa_cons (SE.le (se_vS 1 (pv 1) rfl) .sb) sa_nil)) (fun _ _ _ => aLen_cons (fun _ _ _ => aLen_cons (fun _ _ _ => aLen_nil)))) .vs) sc_is_laying.nd rfl (Or.inr rfl)) rfl)
  (sss_cons (ss_if (st_ne rfl hr.units (se_lc (c := .S) (own := [(Str.ofString "place", 4)]) rfl (own1 rfl) rfl sc_is_laying.nd (SI.w (si_list rfl (se_vS 2 (pv 2) rfl))) (blkOk_by (own := [(Str.ofString "place", 4)]) (N := N_is_laying) (sc := (defScope s_is_laying)) (by decide +kernel)) (fun _ _ _ _ _ => (sgt_name (i := 4) (is := [4]) List.mem_cons_self rfl sc_is_laying.nd rfl (Or.inl rfl))) (fun _ _ _ _ _ => (sts_one (st_notIn rfl (se_vS 4 (pv 4) rfl) (se_vS 3 (pv 3) rfl)))) (fun _ _ _ _ _ => (se_vS 4 (pv 4) rfl))) (se_lst (c := .V) sa_nil)) (sss_one (ss_ret (SE.le se_bl .vl))) sss_nil)
  (sss_one (ss_ret (SE.le (se_isN (se_call rfl tk (ok_first_bare T) (hr.mono (by decide : 1 ≤ 2)) (by rfl) T.g_first_bare T.F_first_bare.kp T.b_first_bare (sa_cons (SE.le (se_len rfl T.m_len (sa_cons (se_vS 1 (pv 1) rfl) sa_nil)) .vb) (sa_cons (SE.le (se_vS 2 (pv 2) rfl) .sb) (sa_cons (SE.le (se_len rfl T.m_len (sa_cons (se_vS 0 (pv 0) rfl) sa_nil)) .vb) sa_nil))) (fun _ _ _ => aLen_cons (fun _ _ _ => aLen_cons (fun _ _ _ => aLen_cons (fun _ _ _ => aLen_nil))))) se_non) .vl))))))))
theorem ok_onward (T : Tp K mg) : FnOk P w K mg base (L2N.CX P w) 3 T.f_onward T.d_onward ps_onward (spP K (cvK K) 2 F_onward) :=
  fn_P N_onward ps_onward 7 2 (cf_onward K mg) B_onward rfl rfl T.F_onward sc_onward rfl (fun i h1 => by
    match i, h1 with
    | 0, _ => exact rfl
    | 1, _ => exact rfl
    | i + 2, h => exact absurd h (by simp)) (fun cdv A outer s H E hr tk pw =>
  (sss_cons (ss_setS (sg_of (i := 2) (SE.le (se_call rfl tk (ok_lies_at T) hr (by rfl) T.g_lies_at T.F_lies_at.kp T.b_lies_at (sa_cons (SE.le (se_vS 0 (pv 0) rfl) .sb) (sa_cons (SE.le (se_vS 1 (pv 1) rfl) .sb) sa_nil)) (fun _ _ _ => aLen_cons (fun _ _ _ => aLen_cons (fun _ _ _ => aLen_nil)))) .vs) sc_onward.nd rfl (Or.inl rfl)) rfl)
  (sss_cons (ss_setD (sg_of (i := 3) se_dnewK sc_onward.nd rfl (Or.inr rfl)) rfl (fun _ _ _ h => dnewK_dic h))
  (sss_cons (ss_for pw rfl (si_list rfl (se_rev rfl (se_vS 2 (pv 2) rfl))) (sgt_name (i := 4) (is := [4]) List.mem_cons_self rfl sc_onward.nd rfl (Or.inr rfl)) (sss_cons (ss_setS (SG.le (sg_lc (i := 5) (c := .V) (own := [(Str.ofString "other", 6)]) rfl (own1 rfl) rfl sc_onward.nd rfl rfl (sw_true rfl rfl rfl (by decide +kernel)) (SI.w (si_list rfl (se_vS 2 (pv 2) rfl))) (blkOk_by (own := [(Str.ofString "other", 6)]) (N := N_onward) (sc := (defScope s_onward)) (by decide +kernel)) (fun _ _ _ _ _ => (sgt_name (i := 6) (is := [6]) List.mem_cons_self rfl sc_onward.nd rfl (Or.inl rfl))) (fun _ _ _ _ _ => (sts_one (st_and2 (st_chain op_lt op_le (se_vS 4 (pv 4) rfl) (se_vS 6 (pv 6) rfl) (se_add (se_vS 4 (pv 4) rfl) (SE.le (se_len rfl T.m_len (sa_cons (se_vS 1 (pv 1) rfl) sa_nil)) .vs))) (st_notN (se_dix hr.units (se_vM 3 (pv 3) rfl) (SE.le (SE.scal (se_vS 6 (pv 6) rfl)) .vl)) se_non)))) (fun _ _ _ _ _ => (SE.scal (se_dix hr.units (se_vM 3 (pv 3) rfl) (SE.le (SE.scal (se_vS 6 (pv 6) rfl)) .vl))))) .vs) rfl)
  (sss_cons (ss_dput (i := 3) hr.units (pv 3) rfl (SE.le se_non .vn) (se_vS 4 (pv 4) rfl))
  (sss_one (ss_if (st_eq rfl hr.units (se_add (se_vS 4 (pv 4) rfl) (SE.le (se_len rfl T.m_len (sa_cons (se_vS 1 (pv 1) rfl) sa_nil)) .vs)) (se_len rfl T.m_len (sa_cons (se_vS 0 (pv 0) rfl) sa_nil))) (sss_one (ss_dput (i := 3) hr.units (pv 3) rfl (SE.le se_int .vn) (se_vS 4 (pv 4) rfl))) (sss_one (ss_if (st_ne rfl hr.units (se_vS 5 (pv 5) rfl) (se_lst (c := .V) sa_nil)) (sss_one (ss_dput (i := 3) hr.units (pv 3) rfl (SE.le (se_add se_int (se_min1 rfl rfl T.m_min (sa_cons (SE.le (se_vS 5 (pv 5) rfl) .sb) sa_nil))) .vn) (se_vS 4 (pv 4) rfl))) sss_nil)))))))
  (sss_one (ss_ret (se_vM 3 (pv 3) rfl)))))))
theorem ok_how_many_layings (T : Tp K mg) : FnOk P w K mg base (L2N.CX P w) 3 T.f_how_many_layings T.d_how_many_layings ps_how_many_layings (spP K (cvK K) 2 F_how_many_layings_v2) :=
  fn_P N_how_many_layings ps_how_many_layings 6 2 (cf_how_many_layings K mg) B_how_many_layings_v2 rfl rfl T.F_how_many_layings sc_how_many_layings rfl (fun i h1 => by
    match i, h1 with
    | 0, _ => exact rfl
    | 1, _ => exact rfl
    | i + 2, h => exact absurd h (by simp)) (fun cdv A outer s H E hr tk pw =>
  (sss_cons (ss_expr (se_call rfl tk (ok_need_both T) hr (by rfl) T.g_need_both T.F_need_both.kp T.b_need_both (sa_cons (SE.le (se_vS 0 (pv 0) rfl) .sb) (sa_cons (SE.le (se_vS 1 (pv 1) rfl) .sb) sa_nil)) (fun _ _ _ => aLen_cons (fun _ _ _ => aLen_cons (fun _ _ _ => aLen_nil)))))
  (sss_cons (ss_setD (sg_of (i := 2) se_dnewK sc_how_many_layings.nd rfl (Or.inr rfl)) rfl (fun _ _ _ h => dnewK_dic h))
  (sss_cons (ss_for pw rfl (si_list rfl (SE.le (se_call rfl tk (ok_lies_at T) hr (by rfl) T.g_lies_at T.F_lies_at.kp T.b_lies_at (sa_cons (SE.le (se_vS 0 (pv 0) rfl) .sb) (sa_cons (SE.le (se_vS 1 (pv 1) rfl) .sb) sa_nil)) (fun _ _ _ => aLen_cons (fun _ _ _ => aLen_cons (fun _ _ _ => aLen_nil)))) .vs)) (sgt_name (i := 3) (is := [3]) List.mem_cons_self rfl sc_how_many_layings.nd rfl (Or.inr rfl)) (sss_cons (ss_setS (SG.le (sg_lock (i := 2) rfl (sg_lc (i := 4) (c := .V) (own := [(Str.ofString "other", 5)]) rfl (own1 rfl) rfl sc_how_many_layings.nd rfl rfl (sw_true rfl rfl rfl (by decide +kernel)) (SI.w (si_keysQ (i := 2) rfl (pv 2) rfl)) (blkOk_by (own := [(Str.ofString "other", 5)]) (N := N_how_many_layings) (sc := (defScope s_how_many_layings)) (by decide +kernel)) (fun _ _ _ _ _ => (sgt_name (i := 5) (is := [5]) List.mem_cons_self rfl sc_how_many_layings.nd rfl (Or.inl rfl))) (fun _ _ _ _ _ => (sts_one (st_ge (se_add (se_vS 5 (pv 5) rfl) (SE.le (se_len rfl T.m_len (sa_cons (se_vS 1 (pv 1) rfl) sa_nil)) .vs)) (se_vS 3 (pv 3) rfl)))) (fun _ _ _ _ _ => (se_dixQ (i := 2) hr.units (pv 2) rfl (se_vS 5 (pv 5) rfl))))) .vs) rfl)
  (sss_one (ss_dput (i := 2) hr.units (pv 2) rfl (SE.le (se_add (se_sum rfl rfl T.m_sum (sa_cons (SE.le (se_vS 4 (pv 4) rfl) .sb) sa_nil)) (se_int1 T.m_int (sa_cons (SE.le (se_eq rfl hr.units (se_vS 3 (pv 3) rfl) se_int) .vb) sa_nil))) .vn) (se_vS 3 (pv 3) rfl)))))
  (sss_one (ss_ret (se_dget2 hr.units (se_vM 2 (pv 2) rfl) (SE.le (se_sub (se_len rfl T.m_len (sa_cons (se_vS 0 (pv 0) rfl) sa_nil)) (se_len rfl T.m_len (sa_cons (se_vS 1 (pv 1) rfl) sa_nil))) .vl) (SE.le se_int .vl))))))))
theorem ok_shortest_covers (T : Tp K mg) : FnOk P w K mg base (L2N.CX P w) 3 T.f_shortest_covers T.d_shortest_covers ps_shortest_covers (spP K (cvK K) 1 F_shortest_covers) :=
  fn_P N_shortest_covers ps_shortest_covers 4 1 (cf_shortest_covers K mg) B_shortest_covers rfl rfl T.F_shortest_covers sc_shortest_covers rfl (fun i h1 => by
    match i, h1 with
    | 0, _ => exact rfl
    | i + 1, h => exact absurd h (by simp)) (fun cdv A outer s H E hr tk pw =>
  (sss_cons (ss_setM (sg_of (i := 1) (se_lst (c := .V) sa_nil) sc_shortest_covers.nd rfl (Or.inl rfl)) rfl)
  (sss_cons (ss_for pw rfl (si_enum rfl (by rfl) T.m_enumerate (sa_cons (SE.le (se_call rfl tk (ok_greatest_covers T) hr (by rfl) T.g_greatest_covers T.F_greatest_covers.kp T.b_greatest_covers (sa_cons (SE.le (se_vS 0 (pv 0) rfl) .sb) sa_nil) (fun _ _ _ => aLen_cons (fun _ _ _ => aLen_nil))) .vs) sa_nil)) (sgt_tup (is := [2, 3]) (js := [2, 3]) rfl rfl (sgts_cons (i := 2) (by decide) rfl sc_shortest_covers.nd rfl (Or.inl rfl) (sgts_cons (i := 3) (by decide) rfl sc_shortest_covers.nd rfl (Or.inl rfl) sgts_nil)) rfl) (sss_one (ss_if (st_eq rfl hr.units (se_vS 3 (pv 3) rfl) se_int) (sss_one (ss_app (i := 1) rfl (pv 1) rfl (SE.le (SE.flat (se_add (se_vS 2 (pv 2) rfl) (SE.le se_int .vs))) .vn))) (sss_one (ss_app (i := 1) rfl (pv 1) rfl (SE.le (SE.scal (se_ix rfl (se_vM 1 (pv 1) rfl) (SE.le (se_sub (se_vS 3 (pv 3) rfl) se_int) .vl) (fun _ _ => rfl))) .vn))))))
  (sss_one (ss_ret (se_vM 1 (pv 1) rfl))))))
theorem ok_cover_tree (T : Tp K mg) : FnOk P w K mg base (L2N.CX P w) 3 T.f_cover_tree T.d_cover_tree ps_cover_tree (spP K (cvK K) 1 F_cover_tree) :=
  fn_P N_cover_tree ps_cover_tree 5 1 (cf_cover_tree K mg) B_cover_tree rfl rfl T.F_cover_tree sc_cover_tree rfl (fun i h1 => by
    match i, h1 with
    | 0, _ => exact rfl
    | i + 1, h => exact absurd h (by simp)) (fun cdv A outer s H E hr tk pw =>
  (sss_cons (ss_setO (sgo_lcE (i := 1) (own := [(Str.ofString "length", 4)]) (own1 rfl) rfl sc_cover_tree.nd rfl rfl (sw_true rfl rfl rfl (by decide +kernel)) (SI.w (si_range1 (by rfl) T.m_range (sa_cons (SE.le (se_add (se_len rfl T.m_len (sa_cons (se_vS 0 (pv 0) rfl) sa_nil)) se_int) .vb) sa_nil))) (blkOk_by (own := [(Str.ofString "length", 4)]) (N := N_cover_tree) (sc := (defScope s_cover_tree)) (by decide +kernel)) (fun _ _ _ _ _ => (sgt_name (i := 4) (is := [4]) List.mem_cons_self rfl sc_cover_tree.nd rfl (Or.inl rfl)))) rfl)
  (sss_cons (ss_for pw rfl (si_enum rfl (by rfl) T.m_enumerate (sa_cons (SE.le (se_call rfl tk (ok_greatest_covers T) hr (by rfl) T.g_greatest_covers T.F_greatest_covers.kp T.b_greatest_covers (sa_cons (SE.le (se_vS 0 (pv 0) rfl) .sb) sa_nil) (fun _ _ _ => aLen_cons (fun _ _ _ => aLen_nil))) .vs) sa_nil)) (sgt_tup (is := [2, 3]) (js := [2, 3]) rfl rfl (sgts_cons (i := 2) (by decide) rfl sc_cover_tree.nd rfl (Or.inl rfl) (sgts_cons (i := 3) (by decide) rfl sc_cover_tree.nd rfl (Or.inl rfl) sgts_nil)) rfl) (sss_one (ss_app2 (i := 1) rfl (pv 1) rfl (SE.le (se_vS 3 (pv 3) rfl) .sb) (SE.le (se_add (se_vS 2 (pv 2) rfl) (SE.le se_int .vs)) .sb) (fun _ _ => rfl))))
  (sss_one (ss_ret (se_vP 1 (pv 1) rfl))))))
theorem ok_how_many_covers (T : Tp K mg) : FnOk P w K mg base (L2N.CX P w) 3 T.f_how_many_covers T.d_how_many_covers ps_how_many_covers (spP K (cvK K) 1 F_how_many_covers) :=
  fn_P N_how_many_covers ps_how_many_covers 4 1 (cf_how_many_covers K mg) B_how_many_covers rfl rfl T.F_how_many_covers sc_how_many_covers rfl (fun i h1 => by
    match i, h1 with
    | 0, _ => exact rfl
    | i + 1, h => exact absurd h (by simp)) (fun cdv A outer s H E hr tk pw =>
  (sss_cons (ss_setM (sg_of (i := 1) (se_lst (c := .V) sa_nil) sc_how_many_covers.nd rfl (Or.inl rfl)) rfl)
  (sss_cons (ss_for pw rfl (si_list rfl (SE.le (se_call rfl tk (ok_greatest_covers T) hr (by rfl) T.g_greatest_covers T.F_greatest_covers.kp T.b_greatest_covers (sa_cons (SE.le (se_vS 0 (pv 0) rfl) .sb) sa_nil) (fun _ _ _ => aLen_cons (fun _ _ _ => aLen_nil))) .vs)) (sgt_name (i := 2) (is := [2]) List.mem_cons_self rfl sc_how_many_covers.nd rfl (Or.inl rfl)) (sss_cons (ss_setS (sg_of (i := 3) (SE.le se_int .vs) sc_how_many_covers.nd rfl (Or.inl rfl)) rfl)
  (sss_cons (ss_if (st_gt (se_vS 2 (pv 2) rfl) se_int) (sss_one (ss_setS (sg_of (i := 3) (SE.le (SE.scal (se_ix rfl (se_vM 1 (pv 1) rfl) (SE.le (se_sub (se_vS 2 (pv 2) rfl) se_int) .vl) (fun _ _ => rfl))) .vs) sc_how_many_covers.nd rfl (Or.inl rfl)) rfl)) sss_nil)
  (sss_one (ss_app (i := 1) rfl (pv 1) rfl (SE.le (SE.flat (se_add (SE.le se_int .vs) (se_vS 3 (pv 3) rfl))) .vn))))))
  (sss_one (ss_ret (se_vM 1 (pv 1) rfl))))))
theorem ok_covered_beginnings (T : Tp K mg) : FnOk P w K mg base (L2N.CX P w) 3 T.f_covered_beginnings T.d_covered_beginnings ps_covered_beginnings (spP K (cvK K) 2 F_covered_beginnings) :=
  fn_P N_covered_beginnings ps_covered_beginnings 4 2 (cf_covered_beginnings K mg) B_covered_beginnings rfl rfl T.F_covered_beginnings sc_covered_beginnings rfl (fun i h1 => by
    match i, h1 with
    | 0, _ => exact rfl
    | 1, _ => exact rfl
    | i + 2, h => exact absurd h (by simp)) (fun cdv A outer s H E hr tk pw =>
  (sss_cons (ss_expr (se_call rfl tk (ok_need_word T) (hr.mono (by decide : 1 ≤ 2)) (by rfl) T.g_need_word T.F_need_word.kp T.b_need_word (sa_cons (SE.le (se_vS 1 (pv 1) rfl) .sb) sa_nil) (fun _ _ _ => aLen_cons (fun _ _ _ => aLen_nil))))
  (sss_cons (ss_expr (se_call rfl tk (ok_need_signs T) (hr.mono (by decide : 1 ≤ 2)) (by rfl) T.g_need_signs T.F_need_signs.kp T.b_need_signs (sa_cons (SE.le (se_add (se_vS 0 (pv 0) rfl) (se_vS 1 (pv 1) rfl)) .sb) sa_nil) (fun _ _ _ => aLen_cons (fun _ _ _ => aLen_nil))))
  (sss_cons (ss_setM (sg_of (i := 2) (se_lst (c := .V) sa_nil) sc_covered_beginnings.nd rfl (Or.inl rfl)) rfl)
  (sss_cons (ss_for pw rfl (si_list rfl (SE.le (se_call rfl tk (ok_lies_at T) hr (by rfl) T.g_lies_at T.F_lies_at.kp T.b_lies_at (sa_cons (SE.le (se_vS 0 (pv 0) rfl) .sb) (sa_cons (SE.le (se_vS 1 (pv 1) rfl) .sb) sa_nil)) (fun _ _ _ => aLen_cons (fun _ _ _ => aLen_cons (fun _ _ _ => aLen_nil)))) .vs)) (sgt_name (i := 3) (is := [3]) List.mem_cons_self rfl sc_covered_beginnings.nd rfl (Or.inl rfl)) (sss_one (ss_if (st_or2 (st_eq rfl hr.units (se_vS 3 (pv 3) rfl) se_int) (st_and2 (st_ne rfl hr.units (se_vM 2 (pv 2) rfl) (se_lst (c := .V) sa_nil)) (st_le (se_vS 3 (pv 3) rfl) (se_ix rfl (se_vM 2 (pv 2) rfl) (SE.le (se_neg se_int) .vl) (fun _ _ => rfl))))) (sss_one (ss_app (i := 2) rfl (pv 2) rfl (SE.le (SE.flat (se_add (se_vS 3 (pv 3) rfl) (SE.le (se_len rfl T.m_len (sa_cons (se_vS 1 (pv 1) rfl) sa_nil)) .vs))) .vn))) sss_nil)))
  (sss_one (ss_ret (se_vM 2 (pv 2) rfl))))))))
theorem ok__law_text (T : Tp K mg) : FnOk P w K mg base (L2N.CX P w) 3 T.f__law_text T.d__law_text ps__law_text (spW K (cvK K) 2 F__law_text) :=
  fn_W N__law_text ps__law_text 7 2 (cf__law_text K mg) B__law_text rfl rfl T.F__law_text sc__law_text rfl rfl (fun i h1 h2 => by
    match i, h1, h2 with
    | 1, _, _ => exact rfl
    | i + 2, _, h => exact absurd h (by simp)) (fun cdv A outer s H E hr tk pw =>
  (sss_cons (ss_setS (sg_of (i := 2) (SE.le (se_ix rfl (se_lst (sa_cons se_int (sa_cons se_int sa_nil))) (se_int1 T.m_int (sa_cons (SE.le (se_eq rfl hr.units (se_callW rfl tk (ok__law_take T) (hr.mono (by decide : 1 ≤ 2)) (by rfl) T.g__law_take T.F__law_take.kp T.b__law_take rfl (pv 0) (sa_cons (SE.le se_int .vb) sa_nil) (aLen1 (fun _ _ _ => aLen_cons (fun _ _ _ => aLen_nil)))) se_int) .vb) sa_nil)) (fun _ _ => rfl)) .vs) sc__law_text.nd rfl (Or.inl rfl)) rfl)
  (sss_cons (ss_if (st_eq rfl hr.units (se_callW rfl tk (ok__law_take T) (hr.mono (by decide : 1 ≤ 2)) (by rfl) T.g__law_take T.F__law_take.kp T.b__law_take rfl (pv 0) (sa_cons (SE.le se_int .vb) sa_nil) (aLen1 (fun _ _ _ => aLen_cons (fun _ _ _ => aLen_nil)))) se_int) (sss_one (ss_ret (SE.le (se_callW rfl tk (ok__law_signs T) hr (by rfl) T.g__law_signs T.F__law_signs.kp T.b__law_signs rfl (pv 0) (sa_cons (SE.le (se_vS 1 (pv 1) rfl) .sb) (sa_cons (SE.le (se_callW rfl tk (ok__law_take T) (hr.mono (by decide : 1 ≤ 2)) (by rfl) T.g__law_take T.F__law_take.kp T.b__law_take rfl (pv 0) (sa_cons (SE.le (se_add (se_vS 2 (pv 2) rfl) (SE.le se_int .vs)) .sb) sa_nil) (aLen1 (fun _ _ _ => aLen_cons (fun _ _ _ => aLen_nil)))) .vb) sa_nil)) (aLen1 (fun _ _ _ => aLen_cons (fun _ _ _ => aLen_cons (fun _ _ _ => aLen_nil))))) .vl))) sss_nil)
  (sss_cons (ss_setM (sg_of (i := 3) (se_callW rfl tk (ok__law_signs T) hr (by rfl) T.g__law_signs T.F__law_signs.kp T.b__law_signs rfl (pv 0) (sa_cons (SE.le (se_vS 1 (pv 1) rfl) .sb) (sa_cons (SE.le (se_add se_int (se_callW rfl tk (ok__law_take T) (hr.mono (by decide : 1 ≤ 2)) (by rfl) T.g__law_take T.F__law_take.kp T.b__law_take rfl (pv 0) (sa_cons (SE.le se_int .vb) sa_nil) (aLen1 (fun _ _ _ => aLen_cons (fun _ _ _ => aLen_nil))))) .vb) sa_nil)) (aLen1 (fun _ _ _ => aLen_cons (fun _ _ _ => aLen_cons (fun _ _ _ => aLen_nil))))) sc__law_text.nd rfl (Or.inl rfl)) rfl)
  (sss_cons (ss_for pw rfl (si_range1 (by rfl) T.m_range (sa_cons (SE.le (se_add se_int (se_callW rfl tk (ok__law_take T) (hr.mono (by decide : 1 ≤ 2)) (by rfl) T.g__law_take T.F__law_take.kp T.b__law_take rfl (pv 0) (sa_cons (SE.le se_int .vb) sa_nil) (aLen1 (fun _ _ _ => aLen_cons (fun _ _ _ => aLen_nil))))) .vb) sa_nil)) (sgt_name (i := 4) (is := [4]) List.mem_cons_self rfl sc__law_text.nd rfl (Or.inl rfl)) (sss_one (ss_setM (sg_of (i := 3) (se_callW rfl tk (ok__law_laid T) hr (by rfl) T.g__law_laid T.F__law_laid.kp T.b__law_laid rfl (pv 0) (sa_cons (SE.le (se_vM 3 (pv 3) rfl) .lb) (sa_cons (SE.le (se_vS 2 (pv 2) rfl) .sb) sa_nil)) (aLen1 (fun _ _ _ => aLen_cons (fun _ _ _ => aLen_cons (fun _ _ _ => aLen_nil))))) sc__law_text.nd rfl (Or.inl rfl)) rfl)))
  (sss_cons (ss_setS (sg_of (i := 5) (SE.le (se_callW rfl tk (ok__law_take T) (hr.mono (by decide : 1 ≤ 2)) (by rfl) T.g__law_take T.F__law_take.kp T.b__law_take rfl (pv 0) (sa_cons (SE.le se_int .vb) sa_nil) (aLen1 (fun _ _ _ => aLen_cons (fun _ _ _ => aLen_nil)))) .vs) sc__law_text.nd rfl (Or.inl rfl)) rfl)
  (sss_cons (ss_setS (sg_of (i := 6) (SE.le (se_callW rfl tk (ok__law_take T) (hr.mono (by decide : 1 ≤ 2)) (by rfl) T.g__law_take T.F__law_take.kp T.b__law_take rfl (pv 0) (sa_cons (SE.le (se_len rfl T.m_len (sa_cons (se_vM 3 (pv 3) rfl) sa_nil)) .vb) sa_nil) (aLen1 (fun _ _ _ => aLen_cons (fun _ _ _ => aLen_nil)))) .vs) sc__law_text.nd rfl (Or.inl rfl)) rfl)
  (sss_cons (ss_if (st_eq rfl hr.units (se_vS 5 (pv 5) rfl) se_int) (sss_one (ss_putM (i := 3) (pv 3) rfl (SE.le (SE.scal (se_ix rfl (se_vS 1 (pv 1) rfl) (SE.le (se_callW rfl tk (ok__law_take T) (hr.mono (by decide : 1 ≤ 2)) (by rfl) T.g__law_take T.F__law_take.kp T.b__law_take rfl (pv 0) (sa_cons (SE.le (se_len rfl T.m_len (sa_cons (se_vS 1 (pv 1) rfl) sa_nil)) .vb) sa_nil) (aLen1 (fun _ _ _ => aLen_cons (fun _ _ _ => aLen_nil)))) .vs) (fun _ _ => rfl))) .vn) (se_vS 6 (pv 6) rfl))) sss_nil)
  (sss_one (ss_ret (se_ix rfl (se_lst (sa_cons (se_vM 3 (pv 3) rfl) (sa_cons (se_vM 3 (pv 3) rfl) (sa_cons (se_sl rfl (se_vM 3 (pv 3) rfl) so_none (so_some (se_add (se_vS 6 (pv 6) rfl) (SE.le se_int .vs)))) (sa_cons (se_sl rfl (se_vM 3 (pv 3) rfl) (so_some (se_vS 6 (pv 6) rfl)) so_none) (sa_cons (se_vM 3 (pv 3) rfl) sa_nil)))))) (SE.le (SE.scal (se_vS 5 (pv 5) rfl)) .vl) (fun _ _ => rfl))))))))))))
theorem ok_all_covers (T : Tp K mg) : FnOk P w K mg base (L2N.CX P w) 4 T.f_all_covers T.d_all_covers ps_all_covers (spP K (cvK K) 1 F_all_covers) :=
  fn_P N_all_covers ps_all_covers 3 1 (cf_all_covers K mg) B_all_covers rfl rfl T.F_all_covers sc_all_covers rfl (fun i h1 => by
    match i, h1 with
    | 0, _ => exact rfl
    | i + 1, h => exact absurd h (by simp)) (fun cdv A outer s H E hr tk pw =>
  (sss_cons (ss_expr (se_call rfl tk (ok_need_signs T) (hr.mono (by decide : 1 ≤ 3)) (by rfl) T.g_need_signs T.F_need_signs.kp T.b_need_signs (sa_cons (SE.le (se_vS 0 (pv 0) rfl) .sb) sa_nil) (fun _ _ _ => aLen_cons (fun _ _ _ => aLen_nil))))
  (sss_cons (ss_expr (se_call rfl tk (ok_need_text T) (hr.mono (by decide : 1 ≤ 3)) (by rfl) T.g_need_text T.F_need_text.kp T.b_need_text (sa_cons (SE.le (se_vS 0 (pv 0) rfl) .sb) sa_nil) (fun _ _ _ => aLen_cons (fun _ _ _ => aLen_nil))))
  (sss_cons (ss_setS (sg_lc (i := 1) (c := .S) (own := [(Str.ofString "size", 2)]) rfl (own1 rfl) rfl sc_all_covers.nd rfl rfl (sw_true rfl rfl rfl (by decide +kernel)) (SI.w (si_list rfl (SE.le (se_call rfl tk (ok_borders T) (hr.mono (by decide : 2 ≤ 3)) (by rfl) T.g_borders T.F_borders.kp T.b_borders (sa_cons (SE.le (se_vS 0 (pv 0) rfl) .sb) sa_nil) (fun _ _ _ => aLen_cons (fun _ _ _ => aLen_nil))) .vs))) (blkOk_by (own := [(Str.ofString "size", 2)]) (N := N_all_covers) (sc := (defScope s_all_covers)) (by decide +kernel)) (fun _ _ _ _ _ => (sgt_name (i := 2) (is := [2]) List.mem_cons_self rfl sc_all_covers.nd rfl (Or.inl rfl))) (fun _ _ _ _ _ => (sts_one (st_and2 (st_gt (se_vS 2 (pv 2) rfl) se_int) (st_eq rfl hr.units (se_ix rfl (se_call rfl takes0N (ok_covered T) hr (by rfl) T.g_covered T.F_covered.kp T.b_covered (sa_cons (SE.le (se_vS 0 (pv 0) rfl) .sb) (sa_cons (SE.le (se_sl rfl (se_vS 0 (pv 0) rfl) so_none (so_some (se_vS 2 (pv 2) rfl))) .sb) sa_nil)) (fun _ _ _ => aLen_cons (fun _ _ _ => aLen_cons (fun _ _ _ => aLen_nil)))) se_int (fun _ _ => rfl)) se_str)))) (fun _ _ _ _ _ => (se_vS 2 (pv 2) rfl))) rfl)
  (sss_one (ss_ret (SE.le (SE.flat (se_add (se_vS 1 (pv 1) rfl) (SE.le (se_lst (sa_cons (se_len rfl T.m_len (sa_cons (se_vS 0 (pv 0) rfl) sa_nil)) sa_nil)) .vs))) .vl)))))))
theorem ok_fewest_layings (T : Tp K mg) : FnOk P w K mg base (L2N.CX P w) 4 T.f_fewest_layings T.d_fewest_layings ps_fewest_layings (spP K (cvK K) 2 F_fewest_layings) :=
  fn_P N_fewest_layings ps_fewest_layings 7 2 (cf_fewest_layings K mg) B_fewest_layings rfl rfl T.F_fewest_layings sc_fewest_layings rfl (fun i h1 => by
    match i, h1 with
    | 0, _ => exact rfl
    | 1, _ => exact rfl
    | i + 2, h => exact absurd h (by simp)) (fun cdv A outer s H E hr tk pw =>
  (sss_cons (ss_expr (se_call rfl tk (ok_need_both T) (hr.mono (by decide : 2 ≤ 3)) (by rfl) T.g_need_both T.F_need_both.kp T.b_need_both (sa_cons (SE.le (se_vS 0 (pv 0) rfl) .sb) (sa_cons (SE.le (se_vS 1 (pv 1) rfl) .sb) sa_nil)) (fun _ _ _ => aLen_cons (fun _ _ _ => aLen_cons (fun _ _ _ => aLen_nil)))))
  (sss_cons (ss_setS (sg_of (i := 2) (SE.le (se_call rfl tk (ok_onward T) hr (by rfl) T.g_onward T.F_onward.kp T.b_onward (sa_cons (SE.le (se_vS 0 (pv 0) rfl) .sb) (sa_cons (SE.le (se_vS 1 (pv 1) rfl) .sb) sa_nil)) (fun _ _ _ => aLen_cons (fun _ _ _ => aLen_cons (fun _ _ _ => aLen_nil)))) .vs) sc_fewest_layings.nd rfl (Or.inr rfl)) rfl)
  (sss_cons (ss_if (st_isN (se_dget1 hr.units (se_vS 2 (pv 2) rfl) (SE.le se_int .vs)) se_non) (sss_one (ss_raise rfl rfl rfl tk T.X_NoCover)) sss_nil)
  (sss_cons (ss_setM (sg_of (i := 3) (se_lst (sa_cons se_int sa_nil)) sc_fewest_layings.nd rfl (Or.inl rfl)) rfl)
  (sss_cons (ss_while WFUEL pw (st_gt (se_dix hr.units (se_vS 2 (pv 2) rfl) (SE.le (SE.scal (se_ix rfl (se_vM 3 (pv 3) rfl) (SE.le (se_neg se_int) .vl) (fun _ _ => rfl))) .vs)) se_int) (sss_cons (ss_setS (sg_of (i := 4) (SE.le (SE.scal (se_ix rfl (se_vM 3 (pv 3) rfl) (SE.le (se_neg se_int) .vl) (fun _ _ => rfl))) .vs) sc_fewest_layings.nd rfl (Or.inr rfl)) rfl)
  (sss_cons (ss_setS (sg_lc (i := 5) (c := .S) (own := [(Str.ofString "place", 6)]) rfl (own1 rfl) rfl sc_fewest_layings.nd rfl rfl (sw_true rfl rfl rfl (by decide +kernel)) (SI.w (si_list rfl (SE.le (se_sorted rfl rfl T.m_sorted (sa_cons (se_vS 2 (pv 2) rfl) sa_nil)) .vs))) (blkOk_by (own := [(Str.ofString "place", 6)]) (N := N_fewest_layings) (sc := (defScope s_fewest_layings)) (by decide +kernel)) (fun _ _ _ _ _ => (sgt_name (i := 6) (is := [6]) List.mem_cons_self rfl sc_fewest_layings.nd rfl (Or.inl rfl))) (fun _ _ _ _ _ => (sts_one (st_chain op_lt op_le (se_vS 4 (pv 4) rfl) (se_vS 6 (pv 6) rfl) (se_add (se_vS 4 (pv 4) rfl) (SE.le (se_len rfl T.m_len (sa_cons (se_vS 1 (pv 1) rfl) sa_nil)) .vs))))) (fun _ _ _ _ _ => (se_vS 6 (pv 6) rfl))) rfl)
  (sss_one (ss_app (i := 3) rfl (pv 3) rfl (SE.le (SE.scal (se_ix rfl (se_lc (c := .S) (own := [(Str.ofString "place", 6)]) rfl (own1 rfl) rfl sc_fewest_layings.nd (SI.w (si_list rfl (se_vS 5 (pv 5) rfl))) (blkOk_by (own := [(Str.ofString "place", 6)]) (N := N_fewest_layings) (sc := (defScope s_fewest_layings)) (by decide +kernel)) (fun _ _ _ _ _ => (sgt_name (i := 6) (is := [6]) List.mem_cons_self rfl sc_fewest_layings.nd rfl (Or.inl rfl))) (fun _ _ _ _ _ => (sts_one (st_eq rfl hr.units (se_dix hr.units (se_vS 2 (pv 2) rfl) (se_vS 6 (pv 6) rfl)) (se_sub (se_dix hr.units (se_vS 2 (pv 2) rfl) (se_vS 4 (pv 4) rfl)) se_int)))) (fun _ _ _ _ _ => (se_vS 6 (pv 6) rfl))) (SE.le se_int .vs) (fun _ _ => rfl))) .vn))))))
  (sss_one (ss_ret (se_vM 3 (pv 3) rfl)))))))))
theorem ok__law_tree_right (T : Tp K mg) : FnOk P w K mg base (L2N.CX P w) 4 T.f__law_tree_right T.d__law_tree_right ps__law_tree_right (spP K (cvK K) 2 F__law_tree_right) :=
  fn_P N__law_tree_right ps__law_tree_right 7 2 (cf__law_tree_right K mg) B__law_tree_right rfl rfl T.F__law_tree_right sc__law_tree_right rfl (fun i h1 => by
    match i, h1 with
    | 0, _ => exact rfl
    | 1, _ => exact rfl
    | i + 2, h => exact absurd h (by simp)) (fun cdv A outer s H E hr tk pw =>
  (sss_cons (ss_setS (sg_of (i := 2) (SE.le (se_len rfl T.m_len (sa_cons (se_vS 0 (pv 0) rfl) sa_nil)) .vs) sc__law_tree_right.nd rfl (Or.inl rfl)) rfl)
  (sss_cons (ss_setS (sg_of (i := 3) (SE.le (se_call rfl tk (ok_cover_tree T) hr (by rfl) T.g_cover_tree T.F_cover_tree.kp T.b_cover_tree (sa_cons (SE.le (se_vS 0 (pv 0) rfl) .sb) sa_nil) (fun _ _ _ => aLen_cons (fun _ _ _ => aLen_nil))) .vs) sc__law_tree_right.nd rfl (Or.inl rfl)) rfl)
  (sss_cons (ss_setS (sg_of (i := 4) (SE.le (se_call rfl tk (ok_greatest_covers T) (hr.mono (by decide : 2 ≤ 3)) (by rfl) T.g_greatest_covers T.F_greatest_covers.kp T.b_greatest_covers (sa_cons (SE.le (se_vS 0 (pv 0) rfl) .sb) sa_nil) (fun _ _ _ => aLen_cons (fun _ _ _ => aLen_nil))) .vs) sc__law_tree_right.nd rfl (Or.inl rfl)) rfl)
  (sss_cons (ss_setM (sg_of (i := 5) (se_lst (c := .V) sa_nil) sc__law_tree_right.nd rfl (Or.inl rfl)) rfl)
  (sss_cons (ss_setS (sg_of (i := 6) (se_vS 2 (pv 2) rfl) sc__law_tree_right.nd rfl (Or.inl rfl)) rfl)
  (sss_cons (ss_while WFUEL pw (st_gt (se_vS 6 (pv 6) rfl) se_int) (sss_cons (ss_app (i := 5) rfl (pv 5) rfl (SE.le (SE.scal (se_vS 6 (pv 6) rfl)) .vn))
  (sss_cons (ss_if (st_notIn rfl (se_vS 6 (pv 6) rfl) (se_ix rfl (se_vS 3 (pv 3) rfl) (se_ix rfl (se_vS 4 (pv 4) rfl) (SE.le (se_sub (se_vS 6 (pv 6) rfl) se_int) .vs) (fun _ _ => rfl)) (fun _ _ => rfl))) (sss_one (ss_ret (SE.le se_bl .vl))) sss_nil)
  (sss_one (ss_setS (sg_of (i := 6) (se_ix rfl (se_vS 4 (pv 4) rfl) (SE.le (se_sub (se_vS 6 (pv 6) rfl) se_int) .vs) (fun _ _ => rfl)) sc__law_tree_right.nd rfl (Or.inl rfl)) rfl)))))
  (sss_cons (ss_if (st_or2 (st_ne rfl hr.units (se_rev rfl (se_vM 5 (pv 5) rfl)) (se_vS 1 (pv 1) rfl)) (st_ne rfl hr.units (se_ix rfl (se_call rfl tk (ok_how_many_covers T) hr (by rfl) T.g_how_many_covers T.F_how_many_covers.kp T.b_how_many_covers (sa_cons (SE.le (se_vS 0 (pv 0) rfl) .sb) sa_nil) (fun _ _ _ => aLen_cons (fun _ _ _ => aLen_nil))) (se_neg se_int) (fun _ _ => rfl)) (se_len rfl T.m_len (sa_cons (se_vS 1 (pv 1) rfl) sa_nil)))) (sss_one (ss_ret (SE.le se_bl .vl))) sss_nil)
  (sss_one (ss_ret (SE.le (se_and (se_eq rfl hr.units (se_ix rfl (se_call rfl tk (ok_shortest_covers T) hr (by rfl) T.g_shortest_covers T.F_shortest_covers.kp T.b_shortest_covers (sa_cons (SE.le (se_vS 0 (pv 0) rfl) .sb) sa_nil) (fun _ _ _ => aLen_cons (fun _ _ _ => aLen_nil))) (se_neg se_int) (fun _ _ => rfl)) (se_ix rfl (se_vS 1 (pv 1) rfl) (SE.le se_int .vs) (fun _ _ => rfl))) (se_one (se_eq rfl hr.units (se_sorted rfl rfl T.m_sorted (sa_cons (se_sumL rfl rfl T.m_sum (sa_cons (se_vS 3 (pv 3) rfl) (sa_cons (SE.le (se_lst (c := .V) sa_nil) .vs) sa_nil))) sa_nil)) (se_lrg2 rfl T.m_list T.m_range (SE.le se_int .vs) (se_add (se_vS 2 (pv 2) rfl) (SE.le se_int .vs)))))) .vl)))))))))))
theorem ok_shortest_cover (T : Tp K mg) : FnOk P w K mg base (L2N.CX P w) 5 T.f_shortest_cover T.d_shortest_cover ps_shortest_cover (spP K (cvK K) 1 F_shortest_cover) :=
  fn_P N_shortest_cover ps_shortest_cover 1 1 (cf_shortest_cover K mg) B_shortest_cover rfl rfl T.F_shortest_cover sc_shortest_cover rfl (fun i h1 => by
    match i, h1 with
    | 0, _ => exact rfl
    | i + 1, h => exact absurd h (by simp)) (fun cdv A outer s H E hr tk pw =>
  (sss_one (ss_ret (SE.le (se_ix rfl (se_call rfl tk (ok_all_covers T) hr (by rfl) T.g_all_covers T.F_all_covers.kp T.b_all_covers (sa_cons (SE.le (se_vS 0 (pv 0) rfl) .sb) sa_nil) (fun _ _ _ => aLen_cons (fun _ _ _ => aLen_nil))) se_int (fun _ _ => rfl)) .vl))))
theorem ok__law_layings_right (T : Tp K mg) : FnOk P w K mg base (L2N.CX P w) 5 T.f__law_layings_right T.d__law_layings_right ps__law_layings_right (spP K (cvK K) 2 F__law_layings_right) :=
  fn_P N__law_layings_right ps__law_layings_right 6 2 (cf__law_layings_right K mg) B__law_layings_right rfl rfl T.F__law_layings_right sc__law_layings_right rfl (fun i h1 => by
    match i, h1 with
    | 0, _ => exact rfl
    | 1, _ => exact rfl
    | i + 2, h => exact absurd h (by simp)) (fun cdv A outer s H E hr tk pw =>
  (sss_cons (ss_setS (sg_of (i := 2) (SE.le (se_ix rfl (se_call rfl tk (ok_covered T) (hr.mono (by decide : 3 ≤ 4)) (by rfl) T.g_covered T.F_covered.kp T.b_covered (sa_cons (SE.le (se_vS 0 (pv 0) rfl) .sb) (sa_cons (SE.le (se_vS 1 (pv 1) rfl) .sb) sa_nil)) (fun _ _ _ => aLen_cons (fun _ _ _ => aLen_cons (fun _ _ _ => aLen_nil)))) se_int (fun _ _ => rfl)) .vs) sc__law_layings_right.nd rfl (Or.inl rfl)) rfl)
  (sss_cons (ss_setS (sg_of (i := 3) (SE.le (se_call rfl tk (ok_fewest_layings T) hr (by rfl) T.g_fewest_layings T.F_fewest_layings.kp T.b_fewest_layings (sa_cons (SE.le (se_vS 0 (pv 0) rfl) .sb) (sa_cons (SE.le (se_vS 1 (pv 1) rfl) .sb) sa_nil)) (fun _ _ _ => aLen_cons (fun _ _ _ => aLen_cons (fun _ _ _ => aLen_nil)))) .vs) sc__law_layings_right.nd rfl (Or.inl rfl)) rfl)
  (sss_cons (ss_if (st_or2 (st_notB (se_call rfl tk (ok_is_laying T) (hr.mono (by decide : 3 ≤ 4)) (by rfl) T.g_is_laying T.F_is_laying.kp T.b_is_laying (sa_cons (SE.le (se_vS 0 (pv 0) rfl) .sb) (sa_cons (SE.le (se_vS 1 (pv 1) rfl) .sb) (sa_cons (SE.le (se_vS 2 (pv 2) rfl) .sb) sa_nil))) (fun _ _ _ => aLen_cons (fun _ _ _ => aLen_cons (fun _ _ _ => aLen_cons (fun _ _ _ => aLen_nil))))) se_bl) (st_notB (se_call rfl tk (ok_is_laying T) (hr.mono (by decide : 3 ≤ 4)) (by rfl) T.g_is_laying T.F_is_laying.kp T.b_is_laying (sa_cons (SE.le (se_vS 0 (pv 0) rfl) .sb) (sa_cons (SE.le (se_vS 1 (pv 1) rfl) .sb) (sa_cons (SE.le (se_vS 3 (pv 3) rfl) .sb) sa_nil))) (fun _ _ _ => aLen_cons (fun _ _ _ => aLen_cons (fun _ _ _ => aLen_cons (fun _ _ _ => aLen_nil))))) se_bl)) (sss_one (ss_ret (SE.le se_bl .vl))) sss_nil)
  (sss_cons (ss_for pw rfl (si_range1 (by rfl) T.m_range (sa_cons (SE.le (se_len rfl T.m_len (sa_cons (se_vS 3 (pv 3) rfl) sa_nil)) .vb) sa_nil)) (sgt_name (i := 4) (is := [4]) List.mem_cons_self rfl sc__law_layings_right.nd rfl (Or.inl rfl)) (sss_one (ss_if (st_notB (se_call rfl tk (ok_is_laying T) (hr.mono (by decide : 3 ≤ 4)) (by rfl) T.g_is_laying T.F_is_laying.kp T.b_is_laying (sa_cons (SE.le (se_vS 0 (pv 0) rfl) .sb) (sa_cons (SE.le (se_vS 1 (pv 1) rfl) .sb) (sa_cons (SE.le (se_add (se_sl rfl (se_vS 3 (pv 3) rfl) so_none (so_some (se_vS 4 (pv 4) rfl))) (se_sl rfl (se_vS 3 (pv 3) rfl) (so_some (se_add (se_vS 4 (pv 4) rfl) (SE.le se_int .vs))) so_none)) .sb) sa_nil))) (fun _ _ _ => aLen_cons (fun _ _ _ => aLen_cons (fun _ _ _ => aLen_cons (fun _ _ _ => aLen_nil))))) se_bl) (sss_one (ss_ret (SE.le se_bl .vl))) sss_nil)))
  (sss_cons (ss_setS (sg_of (i := 5) (SE.le (se_call rfl tk (ok_how_many_layings T) (hr.mono (by decide : 3 ≤ 4)) (by rfl) T.g_how_many_layings T.F_how_many_layings.kp T.b_how_many_layings (sa_cons (SE.le (se_vS 0 (pv 0) rfl) .sb) (sa_cons (SE.le (se_vS 1 (pv 1) rfl) .sb) sa_nil)) (fun _ _ _ => aLen_cons (fun _ _ _ => aLen_cons (fun _ _ _ => aLen_nil)))) .vs) sc__law_layings_right.nd rfl (Or.inl rfl)) rfl)
  (sss_one (ss_ret (SE.le (se_and (se_ge (se_vS 5 (pv 5) rfl) se_int) (se_one (se_eq rfl hr.units (se_eq rfl hr.units (se_vS 5 (pv 5) rfl) se_int) (se_eq rfl hr.units (se_vS 3 (pv 3) rfl) (se_vS 2 (pv 2) rfl))))) .vl)))))))))
theorem ok_is_bare (T : Tp K mg) : FnOk P w K mg base (L2N.CX P w) 6 T.f_is_bare T.d_is_bare ps_is_bare (spP K (cvK K) 1 F_is_bare) :=
  fn_P N_is_bare ps_is_bare 1 1 (cf_is_bare K mg) B_is_bare rfl rfl T.F_is_bare sc_is_bare rfl (fun i h1 => by
    match i, h1 with
    | 0, _ => exact rfl
    | i + 1, h => exact absurd h (by simp)) (fun cdv A outer s H E hr tk pw =>
  (sss_one (ss_ret (SE.le (se_eq rfl hr.units (se_call rfl tk (ok_shortest_cover T) hr (by rfl) T.g_shortest_cover T.F_shortest_cover.kp T.b_shortest_cover (sa_cons (SE.le (se_vS 0 (pv 0) rfl) .sb) sa_nil) (fun _ _ _ => aLen_cons (fun _ _ _ => aLen_nil))) (se_len rfl T.m_len (sa_cons (se_vS 0 (pv 0) rfl) sa_nil))) .vl))))
theorem ok__law_covers_right (T : Tp K mg) : FnOk P w K mg base (L2N.CX P w) 7 T.f__law_covers_right T.d__law_covers_right ps__law_covers_right (spW K (cvK K) 3 F__law_covers_right) :=
  fn_W N__law_covers_right ps__law_covers_right 9 3 (cf__law_covers_right K mg) B__law_covers_right rfl rfl T.F__law_covers_right sc__law_covers_right rfl rfl (fun i h1 h2 => by
    match i, h1, h2 with
    | 1, _, _ => exact rfl
    | 2, _, _ => exact rfl
    | i + 3, _, h => exact absurd h (by simp)) (fun cdv A outer s H E hr tk pw =>
  (sss_cons (ss_setS (sg_of (i := 3) (se_sl rfl (se_vS 2 (pv 2) rfl) so_none (so_some (se_neg se_int))) sc__law_covers_right.nd rfl (Or.inl rfl)) rfl)
  (sss_cons (ss_if (st_and2 (st_gt (se_len rfl T.m_len (sa_cons (se_vS 1 (pv 1) rfl) sa_nil)) se_int) (st_ne rfl hr.units (se_vS 3 (pv 3) rfl) (se_lst (c := .V) sa_nil))) (sss_one (ss_setS (sg_lc (i := 3) (c := .S) (own := [(Str.ofString "k", 8)]) rfl (own1 rfl) rfl sc__law_covers_right.nd rfl rfl (sw_true rfl rfl rfl (by decide +kernel)) (SI.w (si_range1 (by rfl) T.m_range (sa_cons (SE.le se_int .vb) sa_nil))) (blkOk_by (own := [(Str.ofString "k", 8)]) (N := N__law_covers_right) (sc := (defScope s__law_covers_right)) (by decide +kernel)) (fun _ _ _ _ _ => (sgt_name (i := 8) (is := [8]) List.mem_cons_self rfl sc__law_covers_right.nd rfl (Or.inl rfl))) (fun _ _ _ _ _ => sts_nil) (fun _ _ _ _ _ => (se_ix rfl (se_vS 2 (pv 2) rfl) (SE.le (se_callW rfl takes0N (ok__law_take T) (hr.mono (by decide : 1 ≤ 6)) (by rfl) T.g__law_take T.F__law_take.kp T.b__law_take rfl (pv 0) (sa_cons (SE.le (se_sub (se_len rfl T.m_len (sa_cons (se_vS 2 (pv 2) rfl) sa_nil)) se_int) .vb) sa_nil) (aLen1 (fun _ _ _ => aLen_cons (fun _ _ _ => aLen_nil)))) .vs) (fun _ _ => rfl)))) rfl)) sss_nil)
  (sss_cons (ss_for pw rfl (si_list rfl (se_vS 3 (pv 3) rfl)) (sgt_name (i := 4) (is := [4]) List.mem_cons_self rfl sc__law_covers_right.nd rfl (Or.inl rfl)) (sss_cons (ss_if (st_or2 (st_notIn rfl (se_vS 4 (pv 4) rfl) (se_call rfl tk (ok_borders T) (hr.mono (by decide : 2 ≤ 6)) (by rfl) T.g_borders T.F_borders.kp T.b_borders (sa_cons (SE.le (se_vS 1 (pv 1) rfl) .sb) sa_nil) (fun _ _ _ => aLen_cons (fun _ _ _ => aLen_nil)))) (st_ne rfl hr.units (se_ix rfl (se_call rfl tk (ok_covered T) (hr.mono (by decide : 3 ≤ 6)) (by rfl) T.g_covered T.F_covered.kp T.b_covered (sa_cons (SE.le (se_vS 1 (pv 1) rfl) .sb) (sa_cons (SE.le (se_sl rfl (se_vS 1 (pv 1) rfl) so_none (so_some (se_vS 4 (pv 4) rfl))) .sb) sa_nil)) (fun _ _ _ => aLen_cons (fun _ _ _ => aLen_cons (fun _ _ _ => aLen_nil)))) se_int (fun _ _ => rfl)) se_str)) (sss_one (ss_ret (SE.le se_bl .vl))) sss_nil)
  (sss_cons (ss_if (st_ne rfl hr.units (se_call rfl tk (ok_all_covers T) (hr.mono (by decide : 4 ≤ 6)) (by rfl) T.g_all_covers T.F_all_covers.kp T.b_all_covers (sa_cons (SE.le (se_sl rfl (se_vS 1 (pv 1) rfl) so_none (so_some (se_vS 4 (pv 4) rfl))) .sb) sa_nil) (fun _ _ _ => aLen_cons (fun _ _ _ => aLen_nil))) (se_sl rfl (se_vS 2 (pv 2) rfl) so_none (so_some (se_add (se_index rfl (se_vS 2 (pv 2) rfl) (sa_cons (se_vS 4 (pv 4) rfl) sa_nil)) se_int)))) (sss_one (ss_ret (SE.le se_bl .vl))) sss_nil)
  (sss_one (ss_if (st_notIn rfl (se_len rfl T.m_len (sa_cons (se_vS 1 (pv 1) rfl) sa_nil)) (se_call rfl tk (ok_covered_beginnings T) (hr.mono (by decide : 3 ≤ 6)) (by rfl) T.g_covered_beginnings T.F_covered_beginnings.kp T.b_covered_beginnings (sa_cons (SE.le (se_vS 1 (pv 1) rfl) .sb) (sa_cons (SE.le (se_sl rfl (se_vS 1 (pv 1) rfl) so_none (so_some (se_vS 4 (pv 4) rfl))) .sb) sa_nil)) (fun _ _ _ => aLen_cons (fun _ _ _ => aLen_cons (fun _ _ _ => aLen_nil))))) (sss_one (ss_ret (SE.le se_bl .vl))) sss_nil)))))
  (sss_cons (ss_if (st_or2 (st_notB (se_call rfl tk (ok_is_bare T) hr (by rfl) T.g_is_bare T.F_is_bare.kp T.b_is_bare (sa_cons (SE.le (se_sl rfl (se_vS 1 (pv 1) rfl) so_none (so_some (se_ix rfl (se_vS 2 (pv 2) rfl) (SE.le se_int .vs) (fun _ _ => rfl)))) .sb) sa_nil) (fun _ _ _ => aLen_cons (fun _ _ _ => aLen_nil))) se_bl) (st_ne rfl hr.units (se_call rfl tk (ok_is_bare T) hr (by rfl) T.g_is_bare T.F_is_bare.kp T.b_is_bare (sa_cons (SE.le (se_vS 1 (pv 1) rfl) .sb) sa_nil) (fun _ _ _ => aLen_cons (fun _ _ _ => aLen_nil))) (se_eq rfl hr.units (se_len rfl T.m_len (sa_cons (se_vS 2 (pv 2) rfl) sa_nil)) se_int))) (sss_one (ss_ret (SE.le se_bl .vl))) sss_nil)
  (sss_cons (ss_if (st_ne rfl hr.units (se_call rfl tk (ok_shortest_cover T) (hr.mono (by decide : 5 ≤ 6)) (by rfl) T.g_shortest_cover T.F_shortest_cover.kp T.b_shortest_cover (sa_cons (SE.le (se_vS 1 (pv 1) rfl) .sb) sa_nil) (fun _ _ _ => aLen_cons (fun _ _ _ => aLen_nil))) (se_ix rfl (se_vS 2 (pv 2) rfl) (SE.le se_int .vs) (fun _ _ => rfl))) (sss_one (ss_ret (SE.le se_bl .vl))) sss_nil)
  (sss_cons (ss_setS (sg_of (i := 5) (SE.le (se_callW rfl tk (ok__law_renamed T) (hr.mono (by decide : 2 ≤ 6)) (by rfl) T.g__law_renamed T.F__law_renamed.kp T.b__law_renamed rfl (pv 0) sa_nil (aLen1 (fun _ _ _ => aLen_nil))) .vs) sc__law_covers_right.nd rfl (Or.inr rfl)) rfl)
  (sss_cons (ss_setS (sg_lc (i := 6) (c := .S) (own := [(Str.ofString "sign", 7)]) rfl (own1 rfl) rfl sc__law_covers_right.nd rfl rfl (sw_true rfl rfl rfl (by decide +kernel)) (SI.w (si_list rfl (se_vS 1 (pv 1) rfl))) (blkOk_by (own := [(Str.ofString "sign", 7)]) (N := N__law_covers_right) (sc := (defScope s__law_covers_right)) (by decide +kernel)) (fun _ _ _ _ _ => (sgt_name (i := 7) (is := [7]) List.mem_cons_self rfl sc__law_covers_right.nd rfl (Or.inl rfl))) (fun _ _ _ _ _ => sts_nil) (fun _ _ _ _ _ => (se_dix hr.units (se_vS 5 (pv 5) rfl) (se_vS 7 (pv 7) rfl)))) rfl)
  (sss_one (ss_ret (SE.le (se_and (se_eq rfl hr.units (se_call rfl tk (ok_all_covers T) (hr.mono (by decide : 4 ≤ 6)) (by rfl) T.g_all_covers T.F_all_covers.kp T.b_all_covers (sa_cons (SE.le (se_rev rfl (se_vS 1 (pv 1) rfl)) .sb) sa_nil) (fun _ _ _ => aLen_cons (fun _ _ _ => aLen_nil))) (se_vS 2 (pv 2) rfl)) (se_one (se_eq rfl hr.units (se_call rfl tk (ok_all_covers T) (hr.mono (by decide : 4 ≤ 6)) (by rfl) T.g_all_covers T.F_all_covers.kp T.b_all_covers (sa_cons (SE.le (se_vS 6 (pv 6) rfl) .sb) sa_nil) (fun _ _ _ => aLen_cons (fun _ _ _ => aLen_nil))) (se_vS 2 (pv 2) rfl)))) .vl)))))))))))
theorem ok_law (T : Tp K mg) : FnOk P w K mg base CX0 8 T.f_law T.d_law ps_law (spLaw K F_law_k15) :=
  fn_law N_law 6 (cf_law K mg) B_law_k15 rfl T.F_law sc_law rfl rfl (fun cdv A outer s H E hr =>
  (sss_cons (ss_for PassesOwn.never rfl (si_list rfl (SE.le (se_add (se_lst (sa_cons (se_pow se_int se_int) sa_nil)) (se_slQ rfl (pv 0) rfl so_none (so_some se_int))) .vs)) (sgt_name (i := 1) (is := [1]) List.mem_cons_self rfl sc_law.nd rfl (Or.inl rfl)) (sss_cons (ss_setW (sg_of (i := 2) (se_call rfl takes0N (ok__law_hand T) (hr.mono (by decide : 1 ≤ 7)) (by rfl) T.g__law_hand T.F__law_hand.kp T.b__law_hand (sa_cons (SE.le (se_vS 1 (pv 1) rfl) .sb) sa_nil) (fun _ _ _ => aLen_cons (fun _ _ _ => aLen_nil))) sc_law.nd rfl (Or.inl rfl)) rfl (by decide))
  (sss_cons (ss_setS (sg_of (i := 3) (SE.le (se_callW rfl takes0N (ok__law_letters T) (hr.mono (by decide : 2 ≤ 7)) (by rfl) T.g__law_letters T.F__law_letters.kp T.b__law_letters rfl (pv 2) sa_nil (aLen1 (fun _ _ _ => aLen_nil))) .vs) sc_law.nd rfl (Or.inl rfl)) rfl)
  (sss_cons (ss_setS (sg_of (i := 4) (se_sl rfl (se_orT rfl (SE.le (se_callW rfl takes0N (ok__law_text T) (hr.mono (by decide : 3 ≤ 7)) (by rfl) T.g__law_text T.F__law_text.kp T.b__law_text rfl (pv 2) (sa_cons (SE.le (se_vS 3 (pv 3) rfl) .sb) sa_nil) (aLen1 (fun _ _ _ => aLen_cons (fun _ _ _ => aLen_nil)))) .vs) (se_one (se_lst (sa_cons (se_ix rfl (se_vS 3 (pv 3) rfl) (SE.le se_int .vs) (fun _ _ => rfl)) sa_nil)))) so_none (so_some se_int)) sc_law.nd rfl (Or.inl rfl)) rfl)
  (sss_cons (ss_setS (sg_of (i := 5) (SE.le (se_call rfl takes0N (ok_all_covers T) (hr.mono (by decide : 4 ≤ 7)) (by rfl) T.g_all_covers T.F_all_covers.kp T.b_all_covers (sa_cons (SE.le (se_vS 4 (pv 4) rfl) .sb) sa_nil) (fun _ _ _ => aLen_cons (fun _ _ _ => aLen_nil))) .vs) sc_law.nd rfl (Or.inl rfl)) rfl)
  (sss_cons (ss_if (st_or2 (st_ne rfl hr.units (se_ix rfl (se_vS 5 (pv 5) rfl) (SE.le (se_neg se_int) .vs) (fun _ _ => rfl)) (se_len rfl T.m_len (sa_cons (se_vS 4 (pv 4) rfl) sa_nil))) (st_not (st_val (se_call rfl takes0N (ok__law_tree_right T) (hr.mono (by decide : 4 ≤ 7)) (by rfl) T.g__law_tree_right T.F__law_tree_right.kp T.b__law_tree_right (sa_cons (SE.le (se_vS 4 (pv 4) rfl) .sb) (sa_cons (SE.le (se_vS 5 (pv 5) rfl) .sb) sa_nil)) (fun _ _ _ => aLen_cons (fun _ _ _ => aLen_cons (fun _ _ _ => aLen_nil))))))) (sss_one (ss_ret (SE.le se_bl .vl))) sss_nil)
  (sss_cons (ss_if (st_not (st_val (se_callW rfl takes0N (ok__law_covers_right T) hr (by rfl) T.g__law_covers_right T.F__law_covers_right.kp T.b__law_covers_right rfl (pv 2) (sa_cons (SE.le (se_vS 4 (pv 4) rfl) .sb) (sa_cons (SE.le (se_vS 5 (pv 5) rfl) .sb) sa_nil)) (aLen1 (fun _ _ _ => aLen_cons (fun _ _ _ => aLen_cons (fun _ _ _ => aLen_nil))))))) (sss_one (ss_ret (SE.le se_bl .vl))) sss_nil)
  (sss_one (ss_if (st_not (st_val (se_call rfl takes0N (ok__law_layings_right T) (hr.mono (by decide : 5 ≤ 7)) (by rfl) T.g__law_layings_right T.F__law_layings_right.kp T.b__law_layings_right (sa_cons (SE.le (se_vS 4 (pv 4) rfl) .sb) (sa_cons (SE.le (se_sl rfl (se_vS 4 (pv 4) rfl) so_none (so_some (se_ix rfl (se_vS 5 (pv 5) rfl) (SE.le (se_callW rfl takes0N (ok__law_take T) (hr.mono (by decide : 1 ≤ 7)) (by rfl) T.g__law_take T.F__law_take.kp T.b__law_take rfl (pv 2) (sa_cons (SE.le (se_len rfl T.m_len (sa_cons (se_vS 5 (pv 5) rfl) sa_nil)) .vb) sa_nil) (aLen1 (fun _ _ _ => aLen_cons (fun _ _ _ => aLen_nil)))) .vs) (fun _ _ => rfl)))) .sb) sa_nil)) (fun _ _ _ => aLen_cons (fun _ _ _ => aLen_cons (fun _ _ _ => aLen_nil)))))) (sss_one (ss_ret (SE.le se_bl .vl))) sss_nil)))))))))
  (sss_one (ss_ret (SE.le se_bl .vl)))))
end
theorem all_mk {l : PySem.W.OpenLaw} {w : World} {K : PySem.W.Frag} {h : Heap} {mg : Str → Option Value} {fa : Addr} {f0 f1 f2 f3 f4 f5 f6 f7 f8 f9 f10 f11 f12 f13 f14 f15 f16 f17 f18 f19 f20 f21 f22 f23 f24 f25 f26 f27 f28 f29 f30 f31 f32 f33 : Addr} {od0 an0 od1 an1 od2 an2 od3 an3 od4 an4 od5 an5 od6 an6 od7 an7 od8 an8 od9 an9 od10 an10 od11 an11 od12 an12 od13 an13 od14 an14 od15 an15 od16 an16 od17 an17 od18 an18 od19 an19 od20 an20 od21 an21 od22 an22 od23 an23 od24 an24 od25 an25 od26 an26 od27 an27 od28 an28 od29 an29 od30 an30 od31 an31 od32 an32 od33 an33 : Option Addr} {sl0 sl1 sl2 sl3 sl4 sl5 sl6 sl7 sl8 sl9 sl10 sl11 sl12 sl13 sl14 sl15 sl16 sl17 sl18 sl19 sl20 sl21 sl22 sl23 sl24 sl25 sl26 sl27 sl28 sl29 sl30 sl31 sl32 sl33 : Array (Option Value)} {oc0 kV0 dc0 pm0 cd0 ct0 oc1 kV1 dc1 pm1 cd1 ct1 oc2 kV2 dc2 pm2 cd2 ct2 oc3 kV3 dc3 pm3 cd3 ct3 oc4 kV4 dc4 pm4 cd4 ct4 oc5 kV5 dc5 pm5 cd5 ct5 oc6 kV6 dc6 pm6 cd6 ct6 oc7 kV7 dc7 pm7 cd7 ct7 oc8 kV8 dc8 pm8 cd8 ct8 oc9 kV9 dc9 pm9 cd9 ct9 oc10 kV10 dc10 pm10 cd10 ct10 oc11 kV11 dc11 pm11 cd11 ct11 oc12 kV12 dc12 pm12 cd12 ct12 oc13 kV13 dc13 pm13 cd13 ct13 oc14 kV14 dc14 pm14 cd14 ct14 oc15 kV15 dc15 pm15 cd15 ct15 oc16 kV16 dc16 pm16 cd16 ct16 oc17 kV17 dc17 pm17 cd17 ct17 oc18 kV18 dc18 pm18 cd18 ct18 oc19 kV19 dc19 pm19 cd19 ct19 oc20 kV20 dc20 pm20 cd20 ct20 oc21 kV21 dc21 pm21 cd21 ct21 oc22 kV22 dc22 pm22 cd22 ct22 oc23 kV23 dc23 pm23 cd23 ct23 oc24 kV24 dc24 pm24 cd24 ct24 oc25 kV25 dc25 pm25 cd25 ct25 oc26 kV26 dc26 pm26 cd26 ct26 oc27 kV27 dc27 pm27 cd27 ct27 oc28 kV28 dc28 pm28 cd28 ct28 oc29 kV29 dc29 pm29 cd29 ct29 oc30 kV30 dc30 pm30 cd30 ct30 oc31 kV31 dc31 pm31 cd31 ct31 oc32 kV32 dc32 pm32 cd32 ct32 oc33 kV33 dc33 pm33 cd33 ct33 : Value} {t0 : Tok} {cc0 cc1 cc2 cc3 : Addr} (X : K.In h) (G : h.Ns mainGlobals mg) (hfa : mg (Str.ofString "law") = some (.ref fa))
    (a0 : PySem.W.nsIn K mainGlobals (Str.ofString "need_word") = some (some (.ref f0))) (l0 : K.lookup f0 = some ⟨oc0, od0, .func (PySem.W.fnOf (Str.ofString "need_word") (Str.ofString "need_word") (defArgs s_need_word) (defBody s_need_word) (defScope s_need_word) .none kV0 dc0 pm0 an0 cd0 ct0), sl0⟩) (c0 : PySem.W.codeIn K cd0 (Str.ofString "need_word") = true) (k0 : PySem.W.keepIn K (.ref f0) = true)
    (a1 : PySem.W.nsIn K mainGlobals (Str.ofString "need_signs") = some (some (.ref f1))) (l1 : K.lookup f1 = some ⟨oc1, od1, .func (PySem.W.fnOf (Str.ofString "need_signs") (Str.ofString "need_signs") (defArgs s_need_signs) (defBody s_need_signs) (defScope s_need_signs) .none kV1 dc1 pm1 an1 cd1 ct1), sl1⟩) (c1 : PySem.W.codeIn K cd1 (Str.ofString "need_signs") = true) (k1 : PySem.W.keepIn K (.ref f1) = true)
    (a2 : PySem.W.nsIn K mainGlobals (Str.ofString "need_text") = some (some (.ref f2))) (l2 : K.lookup f2 = some ⟨oc2, od2, .func (PySem.W.fnOf (Str.ofString "need_text") (Str.ofString "need_text") (defArgs s_need_text) (defBody s_need_text) (defScope s_need_text) .none kV2 dc2 pm2 an2 cd2 ct2), sl2⟩) (c2 : PySem.W.codeIn K cd2 (Str.ofString "need_text") = true) (k2 : PySem.W.keepIn K (.ref f2) = true)
    (a3 : PySem.W.nsIn K mainGlobals (Str.ofString "greatest_borders") = some (some (.ref f3))) (l3 : K.lookup f3 = some ⟨oc3, od3, .func (PySem.W.fnOf (Str.ofString "greatest_borders") (Str.ofString "greatest_borders") (defArgs s_greatest_borders) (defBody s_greatest_borders) (defScope s_greatest_borders) .none kV3 dc3 pm3 an3 cd3 ct3), sl3⟩) (c3 : PySem.W.codeIn K cd3 (Str.ofString "greatest_borders") = true) (k3 : PySem.W.keepIn K (.ref f3) = true)
    (a4 : PySem.W.nsIn K mainGlobals (Str.ofString "laid_at") = some (some (.ref f4))) (l4 : K.lookup f4 = some ⟨oc4, od4, .func (PySem.W.fnOf (Str.ofString "laid_at") (Str.ofString "laid_at") (defArgs s_laid_at) (defBody s_laid_at) (defScope s_laid_at) .none kV4 dc4 pm4 an4 cd4 ct4), sl4⟩) (c4 : PySem.W.codeIn K cd4 (Str.ofString "laid_at") = true) (k4 : PySem.W.keepIn K (.ref f4) = true)
    (a5 : PySem.W.nsIn K mainGlobals (Str.ofString "first_bare") = some (some (.ref f5))) (l5 : K.lookup f5 = some ⟨oc5, od5, .func (PySem.W.fnOf (Str.ofString "first_bare") (Str.ofString "first_bare") (defArgs s_first_bare) (defBody s_first_bare) (defScope s_first_bare) .none kV5 dc5 pm5 an5 cd5 ct5), sl5⟩) (c5 : PySem.W.codeIn K cd5 (Str.ofString "first_bare") = true) (k5 : PySem.W.keepIn K (.ref f5) = true)
    (a6 : PySem.W.nsIn K mainGlobals (Str.ofString "_law_hand") = some (some (.ref f6))) (l6 : K.lookup f6 = some ⟨oc6, od6, .func (PySem.W.fnOf (Str.ofString "_law_hand") (Str.ofString "_law_hand") (defArgs s__law_hand) (defBody s__law_hand) (defScope s__law_hand) .none kV6 dc6 pm6 an6 cd6 ct6), sl6⟩) (c6 : PySem.W.codeIn K cd6 (Str.ofString "_law_hand") = true) (k6 : PySem.W.keepIn K (.ref f6) = true)
    (a7 : PySem.W.nsIn K mainGlobals (Str.ofString "_law_take") = some (some (.ref f7))) (l7 : K.lookup f7 = some ⟨oc7, od7, .func (PySem.W.fnOf (Str.ofString "_law_take") (Str.ofString "_law_take") (defArgs s__law_take) (defBody s__law_take) (defScope s__law_take) .none kV7 dc7 pm7 an7 cd7 ct7), sl7⟩) (c7 : PySem.W.codeIn K cd7 (Str.ofString "_law_take") = true) (k7 : PySem.W.keepIn K (.ref f7) = true)
    (a8 : PySem.W.nsIn K mainGlobals (Str.ofString "_law_ends") = some (some (.ref f8))) (l8 : K.lookup f8 = some ⟨oc8, od8, .func (PySem.W.fnOf (Str.ofString "_law_ends") (Str.ofString "_law_ends") (defArgs s__law_ends) (defBody s__law_ends) (defScope s__law_ends) .none kV8 dc8 pm8 an8 cd8 ct8), sl8⟩) (c8 : PySem.W.codeIn K cd8 (Str.ofString "_law_ends") = true) (k8 : PySem.W.keepIn K (.ref f8) = true)
    (a9 : PySem.W.nsIn K mainGlobals (Str.ofString "borders") = some (some (.ref f9))) (l9 : K.lookup f9 = some ⟨oc9, od9, .func (PySem.W.fnOf (Str.ofString "borders") (Str.ofString "borders") (defArgs s_borders) (defBody s_borders) (defScope s_borders) .none kV9 dc9 pm9 an9 cd9 ct9), sl9⟩) (c9 : PySem.W.codeIn K cd9 (Str.ofString "borders") = true) (k9 : PySem.W.keepIn K (.ref f9) = true)
    (a10 : PySem.W.nsIn K mainGlobals (Str.ofString "lies_at") = some (some (.ref f10))) (l10 : K.lookup f10 = some ⟨oc10, od10, .func (PySem.W.fnOf (Str.ofString "lies_at") (Str.ofString "lies_at") (defArgs s_lies_at) (defBody s_lies_at) (defScope s_lies_at) .none kV10 dc10 pm10 an10 cd10 ct10), sl10⟩) (c10 : PySem.W.codeIn K cd10 (Str.ofString "lies_at") = true) (k10 : PySem.W.keepIn K (.ref f10) = true)
    (a11 : PySem.W.nsIn K mainGlobals (Str.ofString "need_both") = some (some (.ref f11))) (l11 : K.lookup f11 = some ⟨oc11, od11, .func (PySem.W.fnOf (Str.ofString "need_both") (Str.ofString "need_both") (defArgs s_need_both) (defBody s_need_both) (defScope s_need_both) .none kV11 dc11 pm11 an11 cd11 ct11), sl11⟩) (c11 : PySem.W.codeIn K cd11 (Str.ofString "need_both") = true) (k11 : PySem.W.keepIn K (.ref f11) = true)
    (a12 : PySem.W.nsIn K mainGlobals (Str.ofString "greatest_covers") = some (some (.ref f12))) (l12 : K.lookup f12 = some ⟨oc12, od12, .func (PySem.W.fnOf (Str.ofString "greatest_covers") (Str.ofString "greatest_covers") (defArgs s_greatest_covers) (defBody s_greatest_covers) (defScope s_greatest_covers) .none kV12 dc12 pm12 an12 cd12 ct12), sl12⟩) (c12 : PySem.W.codeIn K cd12 (Str.ofString "greatest_covers") = true) (k12 : PySem.W.keepIn K (.ref f12) = true)
    (a13 : PySem.W.nsIn K mainGlobals (Str.ofString "_law_letters") = some (some (.ref f13))) (l13 : K.lookup f13 = some ⟨oc13, od13, .func (PySem.W.fnOf (Str.ofString "_law_letters") (Str.ofString "_law_letters") (defArgs s__law_letters) (defBody s__law_letters) (defScope s__law_letters) .none kV13 dc13 pm13 an13 cd13 ct13), sl13⟩) (c13 : PySem.W.codeIn K cd13 (Str.ofString "_law_letters") = true) (k13 : PySem.W.keepIn K (.ref f13) = true)
    (a14 : PySem.W.nsIn K mainGlobals (Str.ofString "_law_signs") = some (some (.ref f14))) (l14 : K.lookup f14 = some ⟨oc14, od14, .func (PySem.W.fnOf (Str.ofString "_law_signs") (Str.ofString "_law_signs") (defArgs s__law_signs) (defBody s__law_signs) (defScope s__law_signs) .none kV14 dc14 pm14 an14 cd14 ct14), sl14⟩) (c14 : PySem.W.codeIn K cd14 (Str.ofString "_law_signs") = true) (k14 : PySem.W.keepIn K (.ref f14) = true)
    (a15 : PySem.W.nsIn K mainGlobals (Str.ofString "_law_laid") = some (some (.ref f15))) (l15 : K.lookup f15 = some ⟨oc15, od15, .func (PySem.W.fnOf (Str.ofString "_law_laid") (Str.ofString "_law_laid") (defArgs s__law_laid) (defBody s__law_laid) (defScope s__law_laid) .none kV15 dc15 pm15 an15 cd15 ct15), sl15⟩) (c15 : PySem.W.codeIn K cd15 (Str.ofString "_law_laid") = true) (k15 : PySem.W.keepIn K (.ref f15) = true)
    (a16 : PySem.W.nsIn K mainGlobals (Str.ofString "_law_renamed") = some (some (.ref f16))) (l16 : K.lookup f16 = some ⟨oc16, od16, .func (PySem.W.fnOf (Str.ofString "_law_renamed") (Str.ofString "_law_renamed") (defArgs s__law_renamed) (defBody s__law_renamed) (defScope s__law_renamed) .none kV16 dc16 pm16 an16 cd16 ct16), sl16⟩) (c16 : PySem.W.codeIn K cd16 (Str.ofString "_law_renamed") = true) (k16 : PySem.W.keepIn K (.ref f16) = true)
    (a17 : PySem.W.nsIn K mainGlobals (Str.ofString "covered") = some (some (.ref f17))) (l17 : K.lookup f17 = some ⟨oc17, od17, .func (PySem.W.fnOf (Str.ofString "covered") (Str.ofString "covered") (defArgs s_covered) (defBody s_covered) (defScope s_covered) .none kV17 dc17 pm17 an17 cd17 ct17), sl17⟩) (c17 : PySem.W.codeIn K cd17 (Str.ofString "covered") = true) (k17 : PySem.W.keepIn K (.ref f17) = true)
    (a18 : PySem.W.nsIn K mainGlobals (Str.ofString "is_laying") = some (some (.ref f18))) (l18 : K.lookup f18 = some ⟨oc18, od18, .func (PySem.W.fnOf (Str.ofString "is_laying") (Str.ofString "is_laying") (defArgs s_is_laying) (defBody s_is_laying) (defScope s_is_laying) .none kV18 dc18 pm18 an18 cd18 ct18), sl18⟩) (c18 : PySem.W.codeIn K cd18 (Str.ofString "is_laying") = true) (k18 : PySem.W.keepIn K (.ref f18) = true)
    (a19 : PySem.W.nsIn K mainGlobals (Str.ofString "onward") = some (some (.ref f19))) (l19 : K.lookup f19 = some ⟨oc19, od19, .func (PySem.W.fnOf (Str.ofString "onward") (Str.ofString "onward") (defArgs s_onward) (defBody s_onward) (defScope s_onward) .none kV19 dc19 pm19 an19 cd19 ct19), sl19⟩) (c19 : PySem.W.codeIn K cd19 (Str.ofString "onward") = true) (k19 : PySem.W.keepIn K (.ref f19) = true)
    (a20 : PySem.W.nsIn K mainGlobals (Str.ofString "how_many_layings") = some (some (.ref f20))) (l20 : K.lookup f20 = some ⟨oc20, od20, .func (PySem.W.fnOf (Str.ofString "how_many_layings") (Str.ofString "how_many_layings") (defArgs s_how_many_layings) (defBody s_how_many_layings) (defScope s_how_many_layings) .none kV20 dc20 pm20 an20 cd20 ct20), sl20⟩) (c20 : PySem.W.codeIn K cd20 (Str.ofString "how_many_layings") = true) (k20 : PySem.W.keepIn K (.ref f20) = true)
    (a21 : PySem.W.nsIn K mainGlobals (Str.ofString "shortest_covers") = some (some (.ref f21))) (l21 : K.lookup f21 = some ⟨oc21, od21, .func (PySem.W.fnOf (Str.ofString "shortest_covers") (Str.ofString "shortest_covers") (defArgs s_shortest_covers) (defBody s_shortest_covers) (defScope s_shortest_covers) .none kV21 dc21 pm21 an21 cd21 ct21), sl21⟩) (c21 : PySem.W.codeIn K cd21 (Str.ofString "shortest_covers") = true) (k21 : PySem.W.keepIn K (.ref f21) = true)
    (a22 : PySem.W.nsIn K mainGlobals (Str.ofString "cover_tree") = some (some (.ref f22))) (l22 : K.lookup f22 = some ⟨oc22, od22, .func (PySem.W.fnOf (Str.ofString "cover_tree") (Str.ofString "cover_tree") (defArgs s_cover_tree) (defBody s_cover_tree) (defScope s_cover_tree) .none kV22 dc22 pm22 an22 cd22 ct22), sl22⟩) (c22 : PySem.W.codeIn K cd22 (Str.ofString "cover_tree") = true) (k22 : PySem.W.keepIn K (.ref f22) = true)
    (a23 : PySem.W.nsIn K mainGlobals (Str.ofString "how_many_covers") = some (some (.ref f23))) (l23 : K.lookup f23 = some ⟨oc23, od23, .func (PySem.W.fnOf (Str.ofString "how_many_covers") (Str.ofString "how_many_covers") (defArgs s_how_many_covers) (defBody s_how_many_covers) (defScope s_how_many_covers) .none kV23 dc23 pm23 an23 cd23 ct23), sl23⟩) (c23 : PySem.W.codeIn K cd23 (Str.ofString "how_many_covers") = true) (k23 : PySem.W.keepIn K (.ref f23) = true)
    (a24 : PySem.W.nsIn K mainGlobals (Str.ofString "covered_beginnings") = some (some (.ref f24))) (l24 : K.lookup f24 = some ⟨oc24, od24, .func (PySem.W.fnOf (Str.ofString "covered_beginnings") (Str.ofString "covered_beginnings") (defArgs s_covered_beginnings) (defBody s_covered_beginnings) (defScope s_covered_beginnings) .none kV24 dc24 pm24 an24 cd24 ct24), sl24⟩) (c24 : PySem.W.codeIn K cd24 (Str.ofString "covered_beginnings") = true) (k24 : PySem.W.keepIn K (.ref f24) = true)
    (a25 : PySem.W.nsIn K mainGlobals (Str.ofString "_law_text") = some (some (.ref f25))) (l25 : K.lookup f25 = some ⟨oc25, od25, .func (PySem.W.fnOf (Str.ofString "_law_text") (Str.ofString "_law_text") (defArgs s__law_text) (defBody s__law_text) (defScope s__law_text) .none kV25 dc25 pm25 an25 cd25 ct25), sl25⟩) (c25 : PySem.W.codeIn K cd25 (Str.ofString "_law_text") = true) (k25 : PySem.W.keepIn K (.ref f25) = true)
    (a26 : PySem.W.nsIn K mainGlobals (Str.ofString "all_covers") = some (some (.ref f26))) (l26 : K.lookup f26 = some ⟨oc26, od26, .func (PySem.W.fnOf (Str.ofString "all_covers") (Str.ofString "all_covers") (defArgs s_all_covers) (defBody s_all_covers) (defScope s_all_covers) .none kV26 dc26 pm26 an26 cd26 ct26), sl26⟩) (c26 : PySem.W.codeIn K cd26 (Str.ofString "all_covers") = true) (k26 : PySem.W.keepIn K (.ref f26) = true)
    (a27 : PySem.W.nsIn K mainGlobals (Str.ofString "fewest_layings") = some (some (.ref f27))) (l27 : K.lookup f27 = some ⟨oc27, od27, .func (PySem.W.fnOf (Str.ofString "fewest_layings") (Str.ofString "fewest_layings") (defArgs s_fewest_layings) (defBody s_fewest_layings) (defScope s_fewest_layings) .none kV27 dc27 pm27 an27 cd27 ct27), sl27⟩) (c27 : PySem.W.codeIn K cd27 (Str.ofString "fewest_layings") = true) (k27 : PySem.W.keepIn K (.ref f27) = true)
    (a28 : PySem.W.nsIn K mainGlobals (Str.ofString "_law_tree_right") = some (some (.ref f28))) (l28 : K.lookup f28 = some ⟨oc28, od28, .func (PySem.W.fnOf (Str.ofString "_law_tree_right") (Str.ofString "_law_tree_right") (defArgs s__law_tree_right) (defBody s__law_tree_right) (defScope s__law_tree_right) .none kV28 dc28 pm28 an28 cd28 ct28), sl28⟩) (c28 : PySem.W.codeIn K cd28 (Str.ofString "_law_tree_right") = true) (k28 : PySem.W.keepIn K (.ref f28) = true)
    (a29 : PySem.W.nsIn K mainGlobals (Str.ofString "shortest_cover") = some (some (.ref f29))) (l29 : K.lookup f29 = some ⟨oc29, od29, .func (PySem.W.fnOf (Str.ofString "shortest_cover") (Str.ofString "shortest_cover") (defArgs s_shortest_cover) (defBody s_shortest_cover) (defScope s_shortest_cover) .none kV29 dc29 pm29 an29 cd29 ct29), sl29⟩) (c29 : PySem.W.codeIn K cd29 (Str.ofString "shortest_cover") = true) (k29 : PySem.W.keepIn K (.ref f29) = true)
    (a30 : PySem.W.nsIn K mainGlobals (Str.ofString "_law_layings_right") = some (some (.ref f30))) (l30 : K.lookup f30 = some ⟨oc30, od30, .func (PySem.W.fnOf (Str.ofString "_law_layings_right") (Str.ofString "_law_layings_right") (defArgs s__law_layings_right) (defBody s__law_layings_right) (defScope s__law_layings_right) .none kV30 dc30 pm30 an30 cd30 ct30), sl30⟩) (c30 : PySem.W.codeIn K cd30 (Str.ofString "_law_layings_right") = true) (k30 : PySem.W.keepIn K (.ref f30) = true)
    (a31 : PySem.W.nsIn K mainGlobals (Str.ofString "is_bare") = some (some (.ref f31))) (l31 : K.lookup f31 = some ⟨oc31, od31, .func (PySem.W.fnOf (Str.ofString "is_bare") (Str.ofString "is_bare") (defArgs s_is_bare) (defBody s_is_bare) (defScope s_is_bare) .none kV31 dc31 pm31 an31 cd31 ct31), sl31⟩) (c31 : PySem.W.codeIn K cd31 (Str.ofString "is_bare") = true) (k31 : PySem.W.keepIn K (.ref f31) = true)
    (a32 : PySem.W.nsIn K mainGlobals (Str.ofString "_law_covers_right") = some (some (.ref f32))) (l32 : K.lookup f32 = some ⟨oc32, od32, .func (PySem.W.fnOf (Str.ofString "_law_covers_right") (Str.ofString "_law_covers_right") (defArgs s__law_covers_right) (defBody s__law_covers_right) (defScope s__law_covers_right) .none kV32 dc32 pm32 an32 cd32 ct32), sl32⟩) (c32 : PySem.W.codeIn K cd32 (Str.ofString "_law_covers_right") = true) (k32 : PySem.W.keepIn K (.ref f32) = true)
    (a33 : PySem.W.nsIn K mainGlobals (Str.ofString "law") = some (some (.ref f33))) (l33 : K.lookup f33 = some ⟨oc33, od33, .func (PySem.W.fnOf (Str.ofString "law") (Str.ofString "law") (defArgs s_law) (defBody s_law) (defScope s_law) .none kV33 dc33 pm33 an33 cd33 ct33), sl33⟩) (c33 : PySem.W.codeIn K cd33 (Str.ofString "law") = true) (k33 : PySem.W.keepIn K (.ref f33) = true)
    (e0 : PySem.W.nsIn K mainGlobals (Str.ofString "LETTERS") = some (some (.str (Str.ofString "abcdefghijklmnopqrstuvwxyz") t0)))
    (z0 : PySem.W.nsIn K mainGlobals (Str.ofString "dict") = some none)
    (z1 : PySem.W.nsIn K mainGlobals (Str.ofString "enumerate") = some none)
    (z2 : PySem.W.nsIn K mainGlobals (Str.ofString "int") = some none)
    (z3 : PySem.W.nsIn K mainGlobals (Str.ofString "len") = some none)
    (z4 : PySem.W.nsIn K mainGlobals (Str.ofString "list") = some none)
    (z5 : PySem.W.nsIn K mainGlobals (Str.ofString "max") = some none)
    (z6 : PySem.W.nsIn K mainGlobals (Str.ofString "min") = some none)
    (z7 : PySem.W.nsIn K mainGlobals (Str.ofString "range") = some none)
    (z8 : PySem.W.nsIn K mainGlobals (Str.ofString "set") = some none)
    (z9 : PySem.W.nsIn K mainGlobals (Str.ofString "sorted") = some none)
    (z10 : PySem.W.nsIn K mainGlobals (Str.ofString "sum") = some none)
    (xn0 : PySem.W.nsIn K mainGlobals (Str.ofString "NoWord") = some (some (.ref cc0)))
    (xx0 : PySem.W.excIn K cc0 [.type "ValueError", .type "Exception", .type "BaseException", .type "object"] "ValueError.__new__" = true)
    (xk0 : PySem.W.keepIn K (.ref cc0) = true)
    (xb0 : PySem.W.subIn K (.ref cc0) (.type "BaseException") = some true)
    (xt0 : PySem.W.typeIn K (.ref cc0) = some (.type "type"))
    (xd0 : PySem.W.hasDictIn K cc0 = true)
    (xs0 : PySem.W.subIn K (.ref cc0) (.ref cc0) = some true)
    (xn1 : PySem.W.nsIn K mainGlobals (Str.ofString "NoSign") = some (some (.ref cc1)))
    (xx1 : PySem.W.excIn K cc1 [.type "ValueError", .type "Exception", .type "BaseException", .type "object"] "ValueError.__new__" = true)
    (xk1 : PySem.W.keepIn K (.ref cc1) = true)
    (xb1 : PySem.W.subIn K (.ref cc1) (.type "BaseException") = some true)
    (xt1 : PySem.W.typeIn K (.ref cc1) = some (.type "type"))
    (xd1 : PySem.W.hasDictIn K cc1 = true)
    (xs1 : PySem.W.subIn K (.ref cc1) (.ref cc1) = some true)
    (xn2 : PySem.W.nsIn K mainGlobals (Str.ofString "NoText") = some (some (.ref cc2)))
    (xx2 : PySem.W.excIn K cc2 [.type "ValueError", .type "Exception", .type "BaseException", .type "object"] "ValueError.__new__" = true)
    (xk2 : PySem.W.keepIn K (.ref cc2) = true)
    (xb2 : PySem.W.subIn K (.ref cc2) (.type "BaseException") = some true)
    (xt2 : PySem.W.typeIn K (.ref cc2) = some (.type "type"))
    (xd2 : PySem.W.hasDictIn K cc2 = true)
    (xs2 : PySem.W.subIn K (.ref cc2) (.ref cc2) = some true)
    (xn3 : PySem.W.nsIn K mainGlobals (Str.ofString "NoCover") = some (some (.ref cc3)))
    (xx3 : PySem.W.excIn K cc3 [.type "ValueError", .type "Exception", .type "BaseException", .type "object"] "ValueError.__new__" = true)
    (xk3 : PySem.W.keepIn K (.ref cc3) = true)
    (xb3 : PySem.W.subIn K (.ref cc3) (.type "BaseException") = some true)
    (xt3 : PySem.W.typeIn K (.ref cc3) = some (.type "type"))
    (xd3 : PySem.W.hasDictIn K cc3 = true)
    (xs3 : PySem.W.subIn K (.ref cc3) (.ref cc3) = some true) :
    ∃ fd : FuncData, (∀ (s : Shared) (v : Value), BindsTo s fd ⟨[v], []⟩ [(Str.ofString "script", v)]) ∧ ∀ base : Heap, K.In base → base.Ns mainGlobals mg → FnOk l.prog w K mg base CX0 8 fa fd [Str.ofString "script"] (spLaw K Ov.F_law_k15) := by
  have e := hfa.symm.trans (PySem.W.mg_of X G a33)
  cases e
  have F0 := fun_mk (st := s_need_word) l0 c0 k0
  have F1 := fun_mk (st := s_need_signs) l1 c1 k1
  have F2 := fun_mk (st := s_need_text) l2 c2 k2
  have F3 := fun_mk (st := s_greatest_borders) l3 c3 k3
  have F4 := fun_mk (st := s_laid_at) l4 c4 k4
  have F5 := fun_mk (st := s_first_bare) l5 c5 k5
  have F6 := fun_mk (st := s__law_hand) l6 c6 k6
  have F7 := fun_mk (st := s__law_take) l7 c7 k7
  have F8 := fun_mk (st := s__law_ends) l8 c8 k8
  have F9 := fun_mk (st := s_borders) l9 c9 k9
  have F10 := fun_mk (st := s_lies_at) l10 c10 k10
  have F11 := fun_mk (st := s_need_both) l11 c11 k11
  have F12 := fun_mk (st := s_greatest_covers) l12 c12 k12
  have F13 := fun_mk (st := s__law_letters) l13 c13 k13
  have F14 := fun_mk (st := s__law_signs) l14 c14 k14
  have F15 := fun_mk (st := s__law_laid) l15 c15 k15
  have F16 := fun_mk (st := s__law_renamed) l16 c16 k16
  have F17 := fun_mk (st := s_covered) l17 c17 k17
  have F18 := fun_mk (st := s_is_laying) l18 c18 k18
  have F19 := fun_mk (st := s_onward) l19 c19 k19
  have F20 := fun_mk (st := s_how_many_layings) l20 c20 k20
  have F21 := fun_mk (st := s_shortest_covers) l21 c21 k21
  have F22 := fun_mk (st := s_cover_tree) l22 c22 k22
  have F23 := fun_mk (st := s_how_many_covers) l23 c23 k23
  have F24 := fun_mk (st := s_covered_beginnings) l24 c24 k24
  have F25 := fun_mk (st := s__law_text) l25 c25 k25
  have F26 := fun_mk (st := s_all_covers) l26 c26 k26
  have F27 := fun_mk (st := s_fewest_layings) l27 c27 k27
  have F28 := fun_mk (st := s__law_tree_right) l28 c28 k28
  have F29 := fun_mk (st := s_shortest_cover) l29 c29 k29
  have F30 := fun_mk (st := s__law_layings_right) l30 c30 k30
  have F31 := fun_mk (st := s_is_bare) l31 c31 k31
  have F32 := fun_mk (st := s__law_covers_right) l32 c32 k32
  have F33 := fun_mk (st := s_law) l33 c33 k33
  let T : Tp K mg := ⟨_, _, F0, PySem.W.mg_of X G a0, F0.binds (ps := ps_need_word) (fun _ _ _ _ _ _ us hl => match us, hl with | [_], _ => rfl),
    _, _, F1, PySem.W.mg_of X G a1, F1.binds (ps := ps_need_signs) (fun _ _ _ _ _ _ us hl => match us, hl with | [_], _ => rfl),
    _, _, F2, PySem.W.mg_of X G a2, F2.binds (ps := ps_need_text) (fun _ _ _ _ _ _ us hl => match us, hl with | [_], _ => rfl),
    _, _, F3, PySem.W.mg_of X G a3, F3.binds (ps := ps_greatest_borders) (fun _ _ _ _ _ _ us hl => match us, hl with | [_], _ => rfl),
    _, _, F4, PySem.W.mg_of X G a4, F4.binds (ps := ps_laid_at) (fun _ _ _ _ _ _ us hl => match us, hl with | [_, _], _ => rfl),
    _, _, F5, PySem.W.mg_of X G a5, F5.binds (ps := ps_first_bare) (fun _ _ _ _ _ _ us hl => match us, hl with | [_, _, _], _ => rfl),
    _, _, F6, PySem.W.mg_of X G a6, F6.binds (ps := ps__law_hand) (fun _ _ _ _ _ _ us hl => match us, hl with | [_], _ => rfl),
    _, _, F7, PySem.W.mg_of X G a7, F7.binds (ps := ps__law_take) (fun _ _ _ _ _ _ us hl => match us, hl with | [_, _], _ => rfl),
    _, _, F8, PySem.W.mg_of X G a8, F8.binds (ps := ps__law_ends) (fun _ _ _ _ _ _ us hl => match us, hl with | [_], _ => rfl),
    _, _, F9, PySem.W.mg_of X G a9, F9.binds (ps := ps_borders) (fun _ _ _ _ _ _ us hl => match us, hl with | [_], _ => rfl),
    _, _, F10, PySem.W.mg_of X G a10, F10.binds (ps := ps_lies_at) (fun _ _ _ _ _ _ us hl => match us, hl with | [_, _], _ => rfl),
    _, _, F11, PySem.W.mg_of X G a11, F11.binds (ps := ps_need_both) (fun _ _ _ _ _ _ us hl => match us, hl with | [_, _], _ => rfl),
    _, _, F12, PySem.W.mg_of X G a12, F12.binds (ps := ps_greatest_covers) (fun _ _ _ _ _ _ us hl => match us, hl with | [_], _ => rfl),
    _, _, F13, PySem.W.mg_of X G a13, F13.binds (ps := ps__law_letters) (fun _ _ _ _ _ _ us hl => match us, hl with | [_], _ => rfl),
    _, _, F14, PySem.W.mg_of X G a14, F14.binds (ps := ps__law_signs) (fun _ _ _ _ _ _ us hl => match us, hl with | [_, _, _], _ => rfl),
    _, _, F15, PySem.W.mg_of X G a15, F15.binds (ps := ps__law_laid) (fun _ _ _ _ _ _ us hl => match us, hl with | [_, _, _], _ => rfl),
    _, _, F16, PySem.W.mg_of X G a16, F16.binds (ps := ps__law_renamed) (fun _ _ _ _ _ _ us hl => match us, hl with | [_], _ => rfl),
    _, _, F17, PySem.W.mg_of X G a17, F17.binds (ps := ps_covered) (fun _ _ _ _ _ _ us hl => match us, hl with | [_, _], _ => rfl),
    _, _, F18, PySem.W.mg_of X G a18, F18.binds (ps := ps_is_laying) (fun _ _ _ _ _ _ us hl => match us, hl with | [_, _, _], _ => rfl),
    _, _, F19, PySem.W.mg_of X G a19, F19.binds (ps := ps_onward) (fun _ _ _ _ _ _ us hl => match us, hl with | [_, _], _ => rfl),
    _, _, F20, PySem.W.mg_of X G a20, F20.binds (ps := ps_how_many_layings) (fun _ _ _ _ _ _ us hl => match us, hl with | [_, _], _ => rfl),
    _, _, F21, PySem.W.mg_of X G a21, F21.binds (ps := ps_shortest_covers) (fun _ _ _ _ _ _ us hl => match us, hl with | [_], _ => rfl),
    _, _, F22, PySem.W.mg_of X G a22, F22.binds (ps := ps_cover_tree) (fun _ _ _ _ _ _ us hl => match us, hl with | [_], _ => rfl),
    _, _, F23, PySem.W.mg_of X G a23, F23.binds (ps := ps_how_many_covers) (fun _ _ _ _ _ _ us hl => match us, hl with | [_], _ => rfl),
    _, _, F24, PySem.W.mg_of X G a24, F24.binds (ps := ps_covered_beginnings) (fun _ _ _ _ _ _ us hl => match us, hl with | [_, _], _ => rfl),
    _, _, F25, PySem.W.mg_of X G a25, F25.binds (ps := ps__law_text) (fun _ _ _ _ _ _ us hl => match us, hl with | [_, _], _ => rfl),
    _, _, F26, PySem.W.mg_of X G a26, F26.binds (ps := ps_all_covers) (fun _ _ _ _ _ _ us hl => match us, hl with | [_], _ => rfl),
    _, _, F27, PySem.W.mg_of X G a27, F27.binds (ps := ps_fewest_layings) (fun _ _ _ _ _ _ us hl => match us, hl with | [_, _], _ => rfl),
    _, _, F28, PySem.W.mg_of X G a28, F28.binds (ps := ps__law_tree_right) (fun _ _ _ _ _ _ us hl => match us, hl with | [_, _], _ => rfl),
    _, _, F29, PySem.W.mg_of X G a29, F29.binds (ps := ps_shortest_cover) (fun _ _ _ _ _ _ us hl => match us, hl with | [_], _ => rfl),
    _, _, F30, PySem.W.mg_of X G a30, F30.binds (ps := ps__law_layings_right) (fun _ _ _ _ _ _ us hl => match us, hl with | [_, _], _ => rfl),
    _, _, F31, PySem.W.mg_of X G a31, F31.binds (ps := ps_is_bare) (fun _ _ _ _ _ _ us hl => match us, hl with | [_], _ => rfl),
    _, _, F32, PySem.W.mg_of X G a32, F32.binds (ps := ps__law_covers_right) (fun _ _ _ _ _ _ us hl => match us, hl with | [_, _, _], _ => rfl),
    _, _, F33, PySem.W.mg_of X G a33, F33.binds (ps := ps_law) (fun _ _ _ _ _ _ us hl => match us, hl with | [_], _ => rfl),
    _, PySem.W.mg_of X G e0,
    PySem.W.mg_none_of X G z0,
    PySem.W.mg_none_of X G z1,
    PySem.W.mg_none_of X G z2,
    PySem.W.mg_none_of X G z3,
    PySem.W.mg_none_of X G z4,
    PySem.W.mg_none_of X G z5,
    PySem.W.mg_none_of X G z6,
    PySem.W.mg_none_of X G z7,
    PySem.W.mg_none_of X G z8,
    PySem.W.mg_none_of X G z9,
    PySem.W.mg_none_of X G z10,
    cc0, ⟨xn0, PySem.W.mg_of X G xn0, xx0, xk0, xb0, xt0, xd0, xs0⟩,
    cc1, ⟨xn1, PySem.W.mg_of X G xn1, xx1, xk1, xb1, xt1, xd1, xs1⟩,
    cc2, ⟨xn2, PySem.W.mg_of X G xn2, xx2, xk2, xb2, xt2, xd2, xs2⟩,
    cc3, ⟨xn3, PySem.W.mg_of X G xn3, xx3, xk3, xb3, xt3, xd3, xs3⟩⟩
  exact ⟨_, fun s v => .of_eq rfl, fun base _ _ => ok_law T⟩
end Lk15
open PySem PySem.W PyProof.Rows
set_option maxHeartbeats 0 in
theorem PySem.Challenge.cw_overlaid_k15_whole_covers_holds : PySem.Challenge.rw_overlaid_k15_whole_covers.Holds := by
  w_on; o_law; k_head; (case hw => w_witness2)
  k_fill
  refine L2.walk_of (l := PySem.Challenge.rw_overlaid_k15_whole_covers) (n := 63) (k := 8) (x := "script") (CX := fun _ => L2.CX0) (sp := fun w => MV.spLaw _ Ov.F_law_k15) rfl (by decide) rfl ⟨rfl, by decide, by decide⟩ (fun w h Y => PySem.W.kIn_of Y) ?F (fun _ _ a ns hl _ hS => ⟨rfl, a, ns, rfl, hS, Ov.true_law_k15 ns hl, fun _ => rfl⟩) (fun _ _ _ _ _ h => h)
  case F =>
    intro w mg fa h KX G hmg
    refine' Lk15.all_mk KX G hmg ?a0 ?l0 ?c0 ?k0 ?a1 ?l1 ?c1 ?k1 ?a2 ?l2 ?c2 ?k2 ?a3 ?l3 ?c3 ?k3 ?a4 ?l4 ?c4 ?k4 ?a5 ?l5 ?c5 ?k5 ?a6 ?l6 ?c6 ?k6 ?a7 ?l7 ?c7 ?k7 ?a8 ?l8 ?c8 ?k8 ?a9 ?l9 ?c9 ?k9 ?a10 ?l10 ?c10 ?k10 ?a11 ?l11 ?c11 ?k11 ?a12 ?l12 ?c12 ?k12 ?a13 ?l13 ?c13 ?k13 ?a14 ?l14 ?c14 ?k14 ?a15 ?l15 ?c15 ?k15 ?a16 ?l16 ?c16 ?k16 ?a17 ?l17 ?c17 ?k17 ?a18 ?l18 ?c18 ?k18 ?a19 ?l19 ?c19 ?k19 ?a20 ?l20 ?c20 ?k20 ?a21 ?l21 ?c21 ?k21 ?a22 ?l22 ?c22 ?k22 ?a23 ?l23 ?c23 ?k23 ?a24 ?l24 ?c24 ?k24 ?a25 ?l25 ?c25 ?k25 ?a26 ?l26 ?c26 ?k26 ?a27 ?l27 ?c27 ?k27 ?a28 ?l28 ?c28 ?k28 ?a29 ?l29 ?c29 ?k29 ?a30 ?l30 ?c30 ?k30 ?a31 ?l31 ?c31 ?k31 ?a32 ?l32 ?c32 ?k32 ?a33 ?l33 ?c33 ?k33 ?e0 ?z0 ?z1 ?z2 ?z3 ?z4 ?z5 ?z6 ?z7 ?z8 ?z9 ?z10 ?xn0 ?xx0 ?xk0 ?xb0 ?xt0 ?xd0 ?xs0 ?xn1 ?xx1 ?xk1 ?xb1 ?xt1 ?xd1 ?xs1 ?xn2 ?xx2 ?xk2 ?xb2 ?xt2 ?xd2 ?xs2 ?xn3 ?xx3 ?xk3 ?xb3 ?xt3 ?xd3 ?xs3
    (case a0 => k_is); (case l0 => k_is); (case c0 => k_is); (case k0 => k_is); (case a1 => k_is); (case l1 => k_is); (case c1 => k_is); (case k1 => k_is); (case a2 => k_is); (case l2 => k_is); (case c2 => k_is); (case k2 => k_is); (case a3 => k_is); (case l3 => k_is); (case c3 => k_is); (case k3 => k_is); (case a4 => k_is); (case l4 => k_is); (case c4 => k_is); (case k4 => k_is); (case a5 => k_is); (case l5 => k_is); (case c5 => k_is); (case k5 => k_is); (case a6 => k_is); (case l6 => k_is); (case c6 => k_is); (case k6 => k_is); (case a7 => k_is); (case l7 => k_is); (case c7 => k_is); (case k7 => k_is); (case a8 => k_is); (case l8 => k_is); (case c8 => k_is); (case k8 => k_is); (case a9 => k_is); (case l9 => k_is); (case c9 => k_is); (case k9 => k_is); (case a10 => k_is); (case l10 => k_is); (case c10 => k_is); (case k10 => k_is); (case a11 => k_is); (case l11 => k_is); (case c11 => k_is); (case k11 => k_is); (case a12 => k_is); (case l12 => k_is); (case c12 => k_is); (case k12 => k_is); (case a13 => k_is); (case l13 => k_is); (case c13 => k_is); (case k13 => k_is); (case a14 => k_is); (case l14 => k_is); (case c14 => k_is); (case k14 => k_is); (case a15 => k_is); (case l15 => k_is); (case c15 => k_is); (case k15 => k_is); (case a16 => k_is); (case l16 => k_is); (case c16 => k_is); (case k16 => k_is); (case a17 => k_is); (case l17 => k_is); (case c17 => k_is); (case k17 => k_is); (case a18 => k_is); (case l18 => k_is); (case c18 => k_is); (case k18 => k_is); (case a19 => k_is); (case l19 => k_is); (case c19 => k_is); (case k19 => k_is); (case a20 => k_is); (case l20 => k_is); (case c20 => k_is); (case k20 => k_is); (case a21 => k_is); (case l21 => k_is); (case c21 => k_is); (case k21 => k_is); (case a22 => k_is); (case l22 => k_is); (case c22 => k_is); (case k22 => k_is); (case a23 => k_is); (case l23 => k_is); (case c23 => k_is); (case k23 => k_is); (case a24 => k_is); (case l24 => k_is); (case c24 => k_is); (case k24 => k_is); (case a25 => k_is); (case l25 => k_is); (case c25 => k_is); (case k25 => k_is); (case a26 => k_is); (case l26 => k_is); (case c26 => k_is); (case k26 => k_is); (case a27 => k_is); (case l27 => k_is); (case c27 => k_is); (case k27 => k_is); (case a28 => k_is); (case l28 => k_is); (case c28 => k_is); (case k28 => k_is); (case a29 => k_is); (case l29 => k_is); (case c29 => k_is); (case k29 => k_is); (case a30 => k_is); (case l30 => k_is); (case c30 => k_is); (case k30 => k_is); (case a31 => k_is); (case l31 => k_is); (case c31 => k_is); (case k31 => k_is); (case a32 => k_is); (case l32 => k_is); (case c32 => k_is); (case k32 => k_is); (case a33 => k_is); (case l33 => k_is); (case c33 => k_is); (case k33 => k_is); (case e0 => k_is); (case z0 => k_is); (case z1 => k_is); (case z2 => k_is); (case z3 => k_is); (case z4 => k_is); (case z5 => k_is); (case z6 => k_is); (case z7 => k_is); (case z8 => k_is); (case z9 => k_is); (case z10 => k_is); (case xn0 => k_is); (case xx0 => k_exc); (case xk0 => k_is); (case xb0 => k_is); (case xt0 => k_is); (case xd0 => k_is); (case xs0 => k_is); (case xn1 => k_is); (case xx1 => k_exc); (case xk1 => k_is); (case xb1 => k_is); (case xt1 => k_is); (case xd1 => k_is); (case xs1 => k_is); (case xn2 => k_is); (case xx2 => k_exc); (case xk2 => k_is); (case xb2 => k_is); (case xt2 => k_is); (case xd2 => k_is); (case xs2 => k_is); (case xn3 => k_is); (case xx3 => k_exc); (case xk3 => k_is); (case xb3 => k_is); (case xt3 => k_is); (case xd3 => k_is); (case xs3 => k_is)

